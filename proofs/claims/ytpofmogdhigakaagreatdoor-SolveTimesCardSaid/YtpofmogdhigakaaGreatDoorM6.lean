/- A VERIFIED EVALUATOR, texts E3s, E3t, E3u, E3v, E3w, E3x, E3y, E3z, E3za, E3zb, E3zd, E3ze, E3zf in one. -/
import Derived.Test.YtpofmogdhigakaaGreatDoorM5
import Derived.ChangeBook
import Derived.ChangeStays
import Derived.ChangeArms
import Derived.ChangeMaps5
import Derived.OpenShut
/- E3: REGIONS that draw their order, as a whole; what a piece of code leaves alone. -/
namespace Go.E3
open Go Go.E2
variable {K:Nat->Type}
section
variable {X:Codecs K} {sz:Nat->Nat} {C:ZC K} {base:Heap}
variable {tbl:Tbl K} {inv:Nat->List (NV K)->Prop} {meas:Nat->List (NV K)->Nat} {inl:ZI K}
variable {all:Array Oper} {b:Array Nat} {B old:Nat}
theorem qmn (ok:CfgOk X sz C) (ok2:CfgOk2 X C) (tok:qcu X sz C tbl) (s:qhd X sz C inl):∀ {l:List Oper} {i:Nat} {A:Wd} {r:List Done3} {done:List Done} {st:StV K} {fr:Fr} {H:Heap} {w:Wd} {F:Dirt} {k:StV K->Prop},
  Mid X sz C base B old i A r done st fr H w->Cm X sz B A done F st fr->qzi (qu X tbl inv meas) C inl all b old i l F r st k->
  WpD C.E all b i l done fr H λex fr' H'=>ex=.normal/\∃ a w',k a/\Rel X sz C base a fr' H' w'/\Le w w'
 | [],i,A,r,done,st,fr,H,w,F,k,m,_,h=>zbn ⟨rfl,st,w,h,m.R,.refl w⟩
 | o::l,i,A,r,done,st,fr,H,w,F,k,m,cm,h=>by
  simp only [qzi] at h;cases g:qrv o.op with
  | true=>rw [g] at h;exact absurd h id
  | false=>
   rw [g] at h;simp only [zQ,Bool.false_eq_true,↓reduceIte] at h;obtain ⟨bw,u,hw,q,I,S,R1⟩:=qv1 m.R h;have G:Mid X sz C base B old i A r done u fr H w:=⟨m.R.step ok I.tmps I.n R1 (.refl w),m.D,m.hB,by rw [S];exact m.hold,m.lt,λd g id T=>by rw [I.cells];exact m.live d g id T,m.top,m.z,m.z0⟩;have y:Cm X sz B A done F u fr:=⟨λt p v g L=>by rw [I.tmps] at L;exact cm.calm t p v g L,λt c l' own v g L=>by rw [I.tmps] at L;exact cm.rep t c l' own v g L,cm.fresh⟩;cases bw with
   | true=>
    simp only [zO,↓reduceIte] at q;split at q
    .rename_i f hf;cases U:(r.filter λd=>!(b.getD i 0).testBit d.i).all (λd=>qis old d f) with
     | false=>rw [U] at q;exact absurd q id
     | true=>
      rw [U] at q;simp only [zO,↓reduceIte] at q;have M:∀ {a:StV K} {Q:Prop},(if q3a f r a then Q else False)->q3a f r a=true/\Q:=by
       intro a Q P;cases hc:q3a f r a with
       | false=>rw [hc] at P;exact P.elim
       | true=>rw [hc] at P;exact ⟨rfl,P⟩
      refine zhw ok ok2 tok s G y hw hf U (λp a V=>?_) q λp a v J w' W V N Y Z a0 m'=>?_
      .have hl:=List.all_eq_true.1 (M V).1;refine ⟨λd g j hj=>?_,λj hj=>?_⟩
       .have:=hl d (zG _ g);rw [hj] at this;exact this
       .have:=hl _ zC;simp only [hj] at this;exact this
      have a4:∀ x d,qap F u i o=some x->o.dst=some d->Nat.blt d fr.n=true:=by
       intro x d h2 h3;unfold qap at h2;rw [h3] at h2;rw [G.R.n];exact (qfc h2).1
      have ih:=qmn ok ok2 tok s m' (y.put Y N.1 (G.R.n.trans N.2.symm) a4 Z) (M V).2;obtain ⟨x,hx,e,O,a5,a1,a2,a3⟩:=ih;exact ⟨x,hx,e,O,a5,a1,a2,a0.trans a3⟩
    .exact absurd q id
   | false=>
    simp only [zQ,Bool.false_eq_true,↓reduceIte] at q;refine zg1 hw ?_;exact qmn ok ok2 tok s (G.go (f:=.none) (fp:=.none) (mk:=false) ok rfl rfl R1 (.refl w) .undef (zN _) ⟨zN _,zN _⟩ (λ_=>rfl) rfl G.live (λ_ T=>by cases T)) (y.put (λd g=>zG _ g) rfl G.R.n (λx d hx=>by cases hx) .no) q
end
theorem qo9 {fr:Fr} {dst:Option Tmp} {v:V} {t:Nat} (h:dst≠some t):(fr.put dst v).tmp t=fr.tmp t:=by
 cases dst with
 | none=>rfl
 | some d=>
  obtain ⟨b,n,ds⟩:=fr;simp only [Fr.put];cases Nat.blt d n with
  | false=>rfl
  | true=>
   simp only [zO,Fr.tmp,Tree.zn];rw [zF];intro a;exact h (by rw [a])
theorem zf7 {fr:Fr} {d:D} {t:Nat}:(fr.push d).tmp t=fr.tmp t:=by cases fr;rfl
theorem qif {E:Env} {call:Go.E2.Call} {nd:Bool} {all:Array Oper} {t:Nat}:∀ {l:List Oper} {fr fr':Fr} {H H':Heap} {ex:Ex},(∀ o ∈ l,o.dst≠some t)->ku E call nd all l fr H=some (ex,fr',H')->fr'.tmp t=fr.tmp t
 | [],fr,fr',H,H',ex,_,h=>by
  simp only [ku,zS,zP] at h;rw [h.2.1]
 | o::l,fr,fr',H,H',ex,e,h=>by
  have b:=e o zC;have c:∀ o ∈ l,o.dst≠some t:=λo f=>e o (zG _ f);simp only [ku] at h;split at h
  .split at h
   .cases a:nd with
    | false=>rw [a] at h;cases h
    | true=>
     rw [a] at h;simp only [zO,↓reduceIte] at h;obtain ⟨d,_,g⟩:=zI.1 h;rw [qif c g,qo9 b,zf7]
   .rw [qif c h,qo9 b]
   .cases h
  .split at h
   .rw [qif c h,qo9 b]
   .simp only [zS,zP] at h;rw [h.2.1]
   .cases h
theorem qqk {E:Env} {call:Go.E2.Call} {all:Array Oper} {b:Array Nat} {t:Nat}:∀ {l:List Oper} {i:Nat} {done:List Done} {fr fr':Fr} {H H':Heap},(∀ o ∈ l,o.dst≠some t)->qat E call all b i l done fr H=some (fr',H')->fr'.tmp t=fr.tmp t
 | [],i,done,fr,fr',H,H',_,h=>by
  simp only [qat,zS,zP] at h;rw [h.1]
 | o::l,i,done,fr,fr',H,H',d,h=>by
  have e:=d o zC;have f:∀ o ∈ l,o.dst≠some t:=λo g=>d o (zG _ g);simp only [qat] at h;obtain ⟨j,_,k⟩:=zI.1 h;rcases qk1 k with ⟨_,a⟩ | ⟨_,a⟩
  .split at a
   .rcases qk1 a with ⟨_,c⟩ | ⟨_,c⟩
    .rw [qqk f c,qo9 e]
    .cases c
   .cases a
  .cases a
theorem qq6 {σ:Type} {step:σ->Option (Bool×σ)} {P:σ->Prop} (c:∀ s b a,P s->step s=some (b,a)->P a):∀ {n:Nat} {s a:σ},P s->iter step n s=some a->P a
 | 0,s,a,_,h=>by cases h
 | n+1,s,a,e,h=>by
  simp only [iter] at h;split at h
  .rename_i f d;exact qq6 c (c _ _ _ e d) h
  .rename_i f d;cases h;exact c _ _ _ e d
  .cases h
theorem qaj {E:Env} {call:Go.E2.Call} {fn:FuncId} {round:Option Nat} {fuel t:Nat}:∀ {c:Code} {fr fr':Fr} {H H':Heap} {ex:Ex},t ∉ qdy c->qh E call fn round fuel c fr H=some (ex,fr',H')->fr'.tmp t=fr.tmp t
 | .skip,fr,fr',H,H',ex,_,h=>by simp only [qh,zS,zP] at h;rw [h.2.1]
 | .label _,fr,fr',H,H',ex,_,h=>by simp only [qh,zS,zP] at h;rw [h.2.1]
 | .exit _,fr,fr',H,H',ex,_,h=>by simp only [qh,zS,zP] at h;rw [h.2.1]
 | .goto _,fr,fr',H,H',ex,_,h=>by simp only [qh,zS,zP] at h;rw [h.2.1]
 | .ret,fr,fr',H,H',ex,_,h=>by simp only [qh,zS,zP] at h;rw [h.2.1]
 | .refuse _,fr,fr',H,H',ex,_,h=>by simp [qh] at h
 | .seq a b,fr,fr',H,H',ex,d,h=>by
  simp only [qdy,List.mem_append,not_or] at d;simp only [qh] at h;split at h
  .rename_i g H1 e;rw [qaj d.2 h,qaj d.1 e]
  .exact qaj d.1 h
 | .cond c a b,fr,fr',H,H',ex,d,h=>by
  simp only [qdy,List.mem_append,not_or] at d;simp only [qh] at h;split at h
  .exact qaj d.1 h
  .exact qaj d.2 h
  .cases h
 | .block id c,fr,fr',H,H',ex,d,h=>by
  simp only [qdy] at d;simp only [qh] at h;split at h
  .rename_i p g H1 e;simp only [cond_eq_ite] at h;split at h
   .simp only [zS,zP] at h;rw [<-h.2.1,qaj d e]
   .simp only [zS,zP] at h;rw [<-h.2.1,qaj d e]
  .exact qaj d h
 | .scope c,fr,fr',H,H',ex,d,h=>by
  simp only [qdy] at d;simp only [qh] at h;split at h
  .cases h
  .exact qaj d h
 | .loop c,fr,fr',H,H',ex,d,h=>by
  simp only [qdy] at d;simp only [qh] at h;refine qq6 (P:=λs:Ex×Fr×Heap=>s.2.1.tmp t=fr.tmp t) (λs b v l i=>?_) (s:=(.normal,fr,H)) rfl h;split at i
  .rename_i g H1 e;simp only [zS,zP] at i;rw [<-i.2];show g.tmp t=_;rw [qaj d e];exact l
  .rename_i r _ e;simp only [zS,zP] at i;rw [<-i.2];obtain ⟨w,m,g1⟩:=r;show m.tmp t=_;rw [qaj d e];exact l
  .cases i
 | .region _ ops j,fr,fr',H,H',ex,d,h=>by
  have n:∀ o ∈ ops.toList,o.dst≠some t:=by
   intro o q u;exact d (by simp only [qdy,List.mem_filterMap];exact ⟨o,q,u⟩)
  simp only [qh] at h;cases j with
  | true=>
   obtain ⟨⟨m,g1⟩,e,k⟩:=zM.1 h;simp only [zP] at k;rw [<-k.2.1];exact qqk n e
  | false=>
   exact qif n h
 | .rangeFunc f ps a b,fr,fr',H,H',ex,d,h=>by
  obtain ⟨z,_,h⟩:=zI.1 h;split at h
  .simp only [cond_eq_ite] at h;split at h
   .split at h
    .obtain ⟨y,_,k⟩:=zM.1 h;simp only [zP] at k;rw [<-k.2.1];rfl
    .simp only [zS,zP] at h;rw [<-h.2.1];rfl
    .cases h
   .cases h
  .cases h
theorem q1k {fr:Fr} {dst:Option Tmp} {v:V}:(fr.put dst v).n=fr.n:=by
 cases dst with
 | none=>rfl
 | some d=>
  obtain ⟨a,n,ds⟩:=fr;simp only [Fr.put];cases Nat.blt d n<;>rfl
theorem zpz {fr:Fr} {d:D}:(fr.push d).n=fr.n:=by cases fr;rfl
theorem qs6 {E:Env} {call:Go.E2.Call} {nd:Bool} {all:Array Oper} {t:Nat}:∀ {l:List Oper} {fr fr':Fr} {H H':Heap} {ex:Ex},(∀ o ∈ l,o.dst≠some t)->ku E call nd all l fr H=some (ex,fr',H')->fr'.n=fr.n
 | [],fr,fr',H,H',ex,_,h=>by
  simp only [ku,zS,zP] at h;rw [h.2.1]
 | o::l,fr,fr',H,H',ex,c,h=>by
  have g:=c o zC;have b:∀ o ∈ l,o.dst≠some t:=λo e=>c o (zG _ e);simp only [ku] at h;split at h
  .split at h
   .cases a:nd with
    | false=>rw [a] at h;cases h
    | true=>
     rw [a] at h;simp only [zO,↓reduceIte] at h;obtain ⟨d,_,f⟩:=zI.1 h;rw [qs6 b f,q1k,zpz]
   .rw [qs6 b h,q1k]
   .cases h
  .split at h
   .rw [qs6 b h,q1k]
   .simp only [zS,zP] at h;rw [h.2.1]
   .cases h
theorem q1o {E:Env} {call:Go.E2.Call} {all:Array Oper} {b:Array Nat} {t:Nat}:∀ {l:List Oper} {i:Nat} {done:List Done} {fr fr':Fr} {H H':Heap},(∀ o ∈ l,o.dst≠some t)->qat E call all b i l done fr H=some (fr',H')->fr'.n=fr.n
 | [],i,done,fr,fr',H,H',_,h=>by
  simp only [qat,zS,zP] at h;rw [h.1]
 | o::l,i,done,fr,fr',H,H',d,h=>by
  have k:=d o zC;have e:∀ o ∈ l,o.dst≠some t:=λo f=>d o (zG _ f);simp only [qat] at h;obtain ⟨g,_,j⟩:=zI.1 h;rcases qk1 j with ⟨_,a⟩ | ⟨_,a⟩
  .split at a
   .rcases qk1 a with ⟨_,c⟩ | ⟨_,c⟩
    .rw [q1o e c,q1k]
    .cases c
   .cases a
  .cases a
theorem qc7 {E:Env} {call:Go.E2.Call} {fn:FuncId} {round:Option Nat} {fuel t:Nat}:∀ {c:Code} {fr fr':Fr} {H H':Heap} {ex:Ex},t ∉ qdy c->qh E call fn round fuel c fr H=some (ex,fr',H')->fr'.n=fr.n
 | .skip,fr,fr',H,H',ex,_,h=>by simp only [qh,zS,zP] at h;rw [h.2.1]
 | .label _,fr,fr',H,H',ex,_,h=>by simp only [qh,zS,zP] at h;rw [h.2.1]
 | .exit _,fr,fr',H,H',ex,_,h=>by simp only [qh,zS,zP] at h;rw [h.2.1]
 | .goto _,fr,fr',H,H',ex,_,h=>by simp only [qh,zS,zP] at h;rw [h.2.1]
 | .ret,fr,fr',H,H',ex,_,h=>by simp only [qh,zS,zP] at h;rw [h.2.1]
 | .refuse _,fr,fr',H,H',ex,_,h=>by simp [qh] at h
 | .seq a b,fr,fr',H,H',ex,d,h=>by
  simp only [qdy,List.mem_append,not_or] at d;simp only [qh] at h;split at h
  .rename_i g H1 e;rw [qc7 d.2 h,qc7 d.1 e]
  .exact qc7 d.1 h
 | .cond c a b,fr,fr',H,H',ex,d,h=>by
  simp only [qdy,List.mem_append,not_or] at d;simp only [qh] at h;split at h
  .exact qc7 d.1 h
  .exact qc7 d.2 h
  .cases h
 | .block id c,fr,fr',H,H',ex,d,h=>by
  simp only [qdy] at d;simp only [qh] at h;split at h
  .rename_i q g H1 e;simp only [cond_eq_ite] at h;split at h
   .simp only [zS,zP] at h;rw [<-h.2.1,qc7 d e]
   .simp only [zS,zP] at h;rw [<-h.2.1,qc7 d e]
  .exact qc7 d h
 | .scope c,fr,fr',H,H',ex,d,h=>by
  simp only [qdy] at d;simp only [qh] at h;split at h
  .cases h
  .exact qc7 d h
 | .loop c,fr,fr',H,H',ex,d,h=>by
  simp only [qdy] at d;simp only [qh] at h;refine qq6 (P:=λs:Ex×Fr×Heap=>s.2.1.n=fr.n) (λs b w l i=>?_) (s:=(.normal,fr,H)) rfl h;split at i
  .rename_i g H1 e;simp only [zS,zP] at i;rw [<-i.2];show g.n=_;rw [qc7 d e];exact l
  .rename_i r _ e;simp only [zS,zP] at i;rw [<-i.2];obtain ⟨x,m,g1⟩:=r;show m.n=_;rw [qc7 d e];exact l
  .cases i
 | .region _ ops j,fr,fr',H,H',ex,d,h=>by
  have p:∀ o ∈ ops.toList,o.dst≠some t:=by
   intro o u v;exact d (by simp only [qdy,List.mem_filterMap];exact ⟨o,u,v⟩)
  simp only [qh] at h;cases j with
  | true=>
   obtain ⟨⟨m,g1⟩,e,k⟩:=zM.1 h;simp only [zP] at k;rw [<-k.2.1];exact q1o p e
  | false=>
   exact qs6 p h
 | .rangeFunc f ps a b,fr,fr',H,H',ex,d,h=>by
  obtain ⟨z,_,h⟩:=zI.1 h;split at h
  .simp only [cond_eq_ite] at h;split at h
   .split at h
    .obtain ⟨y,_,k⟩:=zM.1 h;simp only [zP] at k;rw [<-k.2.1]
    .grind
    .cases h
   .cases h
  .cases h
theorem qxp (l:List Nat):∃ t,t ∉ l:=by
 have b:∃ m,∀ x ∈ l,x<m:=by
  induction l with
  | nil=>simp_all
  | cons a l e=>
   obtain ⟨m,c⟩:=e;refine ⟨max m (a+1),λx d=>?_⟩;rcases zD.1 d with rfl | d
   .omega
   .grind
 obtain ⟨m,c⟩:=b;exact ⟨m,λh=>Nat.lt_irrefl _ (c m h)⟩
theorem Wp.frame {E:Env} {fn:FuncId} {round:Option Nat} {c:Code} {fr:Fr} {H:Heap} {Q:Ex->Fr->Heap->Prop} (h:Wp E fn round c fr H Q):Wp E fn round c fr H λex fr' H'=>Q ex fr' H'/\(∀ t,t ∉ qdy c->fr'.tmp t=fr.tmp t)/\fr'.n=fr.n:=by
 obtain ⟨x,⟨a,b⟩,i⟩:=h;obtain ⟨e,f,g⟩:=x;refine ⟨(e,f,g),⟨a,b⟩,i,λt d=>qaj d (b a (zN _)),?_⟩;obtain ⟨t,d⟩:=qxp (qdy c);exact qc7 d (b a (zN _))
end Go.E3
/- E3: WHAT VARIES, at the head of a loop and behind a cut. -/
namespace Go.E3
open Go Go.E2
variable {K:Nat->Type}
structure Part (X:Codecs K) (sz:Nat->Nat) (base:Heap) (st0:StV K) (w0:Wd) (st2:StV K) (H2:Heap) (w2:Wd) (st1:StV K) (w1:Wd) (pend:List Nat):Prop where
 g:w1.g=w2.g
 M:w1.M=w2.M
 ce:w1.ce=w2.ce
 nx:w1.nx=w2.nx
 c:w1.c=w2.c
 cl:∀ id,w1.cl id↔(w2.cl id/\id<st0.next)
 n:w1.n=st1.next
 le:Le w0 w1
 nxt:st0.next<=st1.next
 known:st1.known=st0.known
 owns:w1.owns=look st1.owns
 ownn:∀ i s,look st1.owns i=some s->i<st1.next
 eta:∀ i s nm,look st1.owns i=some s->w1.eta i=some nm->base.next<=nm/\nm<H2.next/\¬ w2.M nm
 einj:∀ i j s s' nm,look st1.owns i=some s->look st1.owns j=some s'->w1.eta i=some nm->w1.eta j=some nm->i=j
 pends:∀ i2 ∈ pend,(∃ s2,look st2.owns i2=some s2)/\∀ nm,w2.eta i2=some nm->∀ j s,look st1.owns j=some s->w1.eta j≠some nm
 pdist:pend.Nodup
section
variable {X:Codecs K} {sz:Nat->Nat} {C:ZC K} {base H0 H2:Heap} {st0 st2:StV K} {w0 w2:Wd}
variable {tbl:Tbl K} {inv:Nat->List (NV K)->Prop} {meas:Nat->List (NV K)->Nat}
theorem Part.move (ok2:CfgOk2 X C) {b:StV K} {w1:Wd} {a:List Nat} (m:Part X sz base st0 w0 st2 H2 w2 b w1 a) {p:PV K} {v:V} (r:Rep X sz w2 p v) (c:Plain p):Rep X sz w1 p v:=
 r.plain ok2.plain m.g (λ_ _ _ h=>by rw [m.M];exact h) c
theorem qfg (ok:CfgOk X sz C) (ok2:CfgOk2 X C) (R2:RelH X sz C base st2 H2 w2):∀ {ks:List SK} {ps o:List (PV K)} {vs:List V} {ns:List (NV K)} {r:List Nat} {d:StV K} {w1:Wd} {G:List (PV K)->List (NV K)->StV K->Prop},
  qmx (qu X tbl inv meas) st2 ks o=some ns->ql X sz w2 o vs->(∀ (i:Nat) (p:PV K),ks[i]? = some .keep->ps[i]? = some p->∀ w',Le w0 w'->w'.g=w2.g->w'.M=w2.M->Rep X sz w' p (vs.getD i zs))->
  Part X sz base st0 w0 st2 H2 w2 d w1 (qas ks o++r)->qpo (qu X tbl inv meas) ks ps d G->
  ∃ U f w,G U ns f/\Part X sz base st0 w0 st2 H2 w2 f w r/\Le w1 w/\ql X sz w U vs/\f.tmps=d.tmps/\f.n=d.n/\f.cells=d.cells
 | [],[],o,vs,ns,r,d,w1,G,hN,hr,hK,m,h=>by
  cases o with
  | nil=>
   simp only [qmx,zS] at hN;subst hN;simp only [qpo] at h;have:=hr.z6;subst this;exact ⟨[],d,w1,h,m,.refl w1,.nil,rfl,rfl,rfl⟩
  | cons _ _=>simp [qmx] at hN
 | [],_::_,o,vs,ns,r,d,w1,G,hN,hr,hK,m,h=>absurd h id
 | _::_,[],o,vs,ns,r,d,w1,G,hN,hr,hK,m,h=>absurd h id
 | k::ks,p::ps,[],vs,ns,r,d,w1,G,hN,hr,hK,m,h=>by simp [qmx] at hN
 | k::ks,p::ps,B::o,vs,ns,r,d,w1,G,hN,hr,hK,m,h=>by
  obtain ⟨v,ao,rfl,r1,r2⟩:=hr.zk;simp only [qmx] at hN;obtain ⟨a,u,aq⟩:=zI.1 hN;obtain ⟨aW,O,ar⟩:=zM.1 aq;subst ar;have P:∀ (i:Nat) (p:PV K),ks[i]? = some .keep->ps[i]? = some p->∀ w',Le w0 w'->w'.g=w2.g->w'.M=w2.M->Rep X sz w' p (ao.getD i zs):=by
   intro i q W h2 w' h3 h4 h5;have:=hK (i+1) q (by simpa using W) (by simpa using h2) w' h3 h4 h5;simpa using this
  cases k with
  | int kd=>
   simp only [qpo] at h;cases B with
   | int k' l n=>
    simp only [quw] at u;split at u
    .rename_i hk;subst hk;cases u;cases r1;have m':Part X sz base st0 w0 st2 H2 w2 d w1 (qas ks o++r):=m;obtain ⟨U,f,w,g1,g2,J,g4,g5,g6,g7⟩:=qfg ok ok2 R2 O r2 P m' (h n);exact ⟨_,f,w,g1,g2,J,.cons (.int λm hm=>by cases hm) g4,g5,g6,g7⟩
    .cases u
   | _=>simp [quw] at u
  | str=>
   simp only [qpo] at h;cases B with
   | str s=>
    simp only [quw,zS] at u;subst u;cases r1;obtain ⟨U,f,w,g1,g2,J,g4,g5,g6,g7⟩:=qfg ok ok2 R2 O r2 P m (h s);exact ⟨_,f,w,g1,g2,J,.cons .str g4,g5,g6,g7⟩
   | _=>simp [quw] at u
  | keep=>
   simp only [qpo] at h;have ha:a=[]:=by
    cases B<;>simp [quw] at u<;>exact u
   subst ha;obtain ⟨U,f,w,g1,g2,J,g4,g5,g6,g7⟩:=qfg ok ok2 R2 O r2 P m h;have hq:=hK 0 p rfl rfl w g2.le g2.g g2.M;simp only [List.getD_cons_zero] at hq;exact ⟨_,f,w,g1,g2,J,.cons hq g4,g5,g6,g7⟩
  | bool=>
   simp only [qpo] at h;have hb:∃ b,a=[.b b]/\v=.bool b:=by
    cases B with
    | lit b=>simp only [quw,zS] at u;cases r1;exact ⟨b,u.symm,rfl⟩
    | sb id neg b pt pf=>simp only [quw,zS] at u;cases r1;exact ⟨b,u.symm,rfl⟩
    | _=>simp [quw] at u
   obtain ⟨b,rfl,rfl⟩:=hb;let F:Wd:={w1 with n:=d.next+1,nu:=λid=>if id=d.next then b else w1.nu id};have Q:Le w1 F:=Le.ext (by rw [m.n];exact Nat.le_succ _) (λid hi=>zF (by rw [m.n] at hi;omega));have m':Part X sz base st0 w0 st2 H2 w2 {d with next:=d.next+1} F (qas ks o++r):=
    ⟨m.g,m.M,m.ce,m.nx,m.c,m.cl,rfl,m.le.trans Q,Nat.le_succ_of_le m.nxt,m.known,m.owns,λi s h=>Nat.lt_succ_of_lt (m.ownn i s h),m.eta,m.einj,m.pends,m.pdist⟩
   obtain ⟨U,f,w,g1,g2,J,g4,g5,g6,g7⟩:=qfg ok ok2 R2 O r2 P m' (h b);refine ⟨_,f,w,g1,g2,Q.trans J,.cons ?_ g4,g5,g6,g7⟩;have:Rep X sz F (.sb d.next false b (b=true) (b=false)) (.bool b):=.sb .rfl .rfl λ_=>⟨Nat.lt_succ_self _,by show b=((if d.next=d.next then b else w1.nu d.next) != false);rw [zT rfl];simp⟩;exact this.mono ok.len J
  | list c own Y=>
   simp only [qpo] at h;have L:∃ l,asL (qu X tbl inv meas) c B=some l/\a=[.l c l]/\(own=true->qd6 st2 B=true)/\(Y=true->zfj B=true):=by
    have e:quw (qu X tbl inv meas) st2 (.list c own Y) B=(if (own&&!qd6 st2 B) || (Y&&!zfj B) then none else (asL (qu X tbl inv meas) c B).map λl=>[.l c l]):=by
     cases B<;>rfl
    rw [e] at u;rcases zz u with ⟨hb,h2⟩ | ⟨_,h2⟩
    .obtain ⟨l,L,rfl⟩:=zM.1 h2;simp only [Bool.or_eq_false_iff] at hb;refine ⟨l,L,rfl,λho=>?_,λho=>?_⟩
     .have:=hb.1;rw [ho] at this;simpa using this
     .have:=hb.2;rw [ho] at this;simpa using this
    .cases h2
   obtain ⟨l,L,rfl,A,ad⟩:=L;have rl:=qfp r1 L;cases own with
   | false=>
    have t:qas (.list c false Y::ks) (B::o)=qas ks o:=by cases B<;>rfl
    rw [t] at m;have h':qpo (qu X tbl inv meas) ks ps d λU ns a8=>G (.list c l none::U) (.l c l::ns) a8:=h l;obtain ⟨U,f,w,g1,g2,J,g4,g5,g6,g7⟩:=qfg ok ok2 R2 O r2 P m h';exact ⟨_,f,w,g1,g2,J,.cons ((m.move ok2 rl .list).mono ok.len J) g4,g5,g6,g7⟩
   | true=>
    have A:=A rfl;have h':qpo (qu X tbl inv meas) ks ps {d with owns:=(d.next,if Y then 1 else 0)::d.owns,next:=d.next+1} λU ns a8=>G (.list c l (some (d.next,if Y then 1 else 0))::U) (.l c l::ns) a8:=h l;generalize hq:(if Y then 1 else 0:Nat)=q at h';have y:∃ Z:Option Nat,(B=.nils/\Z=none/\qas (.list c true Y::ks) (B::o)=qas ks o)∨(∃ l2 D s2,B=.list c l2 (some (D,s2))/\Z=w2.eta D/\look st2.owns D=some s2/\qas (.list c true Y::ks) (B::o)=D::qas ks o):=by
     cases B with
     | nils=>exact ⟨none,.inl ⟨rfl,rfl,rfl⟩⟩
     | list c2 l2 o2=>
      cases o2 with
      | none=>simp [qd6] at A
      | some x=>
       obtain ⟨D,s2⟩:=x;simp only [qd6] at A;split at A
       .rename_i s' hs;have:=zE A;subst this;unfold asL at L;simp only at L;split at L
        .rename_i hc;subst hc;exact ⟨w2.eta D,.inr ⟨l2,D,_,rfl,rfl,hs,rfl⟩⟩
        .cases L
       .cases A
     | _=>simp [qd6] at A
    obtain ⟨Z,y⟩:=y;let F:Wd:={w1 with n:=d.next+1,owns:=look ((d.next,q)::d.owns),eta:=λj=>if j=d.next then Z else w1.eta j};have au:look d.owns d.next=none:=by
     cases hq:look d.owns d.next with
     | none=>rfl
     | some s=>have:=m.ownn _ _ hq;omega
    have Q:Le w1 F:=by
     refine ⟨⟨by rw [m.n];exact Nat.le_succ _,λnm cs e ae a9 af ex hg hM=>⟨hM,[],ae,af,ex,by rw [zJ];exact hg⟩,λ_ _=>rfl,λ_ _=>rfl,λi hi h0=>?_,λi s s' hi h0 W=>?_,λi s hi h0 W=>?_,rfl,λ_ _=>.rfl,zN _,rfl,λ_ _ h=>h,λ_ _=>rfl⟩,λ_ h=>h,rfl⟩
     .rw [m.n] at hi;rw [m.owns] at h0;show look ((d.next,q)::d.owns) i=none;rw [qaw,zF (by omega)];exact h0
     .rw [m.n] at hi;rw [m.owns] at h0;have ag:look ((d.next,q)::d.owns) i=some s':=W;rw [qaw,zF (by omega),h0] at ag;cases ag;exact zN _
     .rw [m.n] at hi;exact ⟨zF (by omega),λ_ _ _=>rfl⟩
    have H:∀ nm,Z=some nm->(∀ j s,look d.owns j=some s->w1.eta j≠some nm)/\base.next<=nm/\nm<H2.next/\¬ w2.M nm:=by
     intro nm E;rcases y with ⟨rfl,he,_⟩ | ⟨l2,D,s2,rfl,he,R,t⟩
     .rw [he] at E;cases E
     .have:=m.pends D (by rw [t];exact List.mem_append_left _ zC);rw [he] at E;exact ⟨this.2 nm E,R2.eta D s2 nm R E⟩
    have m':Part X sz base st0 w0 st2 H2 w2 {d with owns:=(d.next,q)::d.owns,next:=d.next+1} F (qas ks o++r):=by
     have ah:∀ i,i ∈ qas ks o++r->i ∈ qas (.list c true Y::ks) (B::o)++r:=by
      intro i hi;rcases y with ⟨_,_,t⟩ | ⟨l2,D,s2,_,_,_,t⟩
      .rw [t];exact hi
      .rw [t];exact zG _ hi
     have av:(qas ks o++r).Nodup:=by
      have:=m.pdist;rcases y with ⟨_,_,t⟩ | ⟨l2,D,s2,_,_,_,t⟩
      .rw [t] at this;exact this
      .rw [t,List.cons_append,List.nodup_cons] at this;exact this.2
     refine ⟨m.g,m.M,m.ce,m.nx,m.c,m.cl,rfl,m.le.trans Q,Nat.le_succ_of_le m.nxt,m.known,rfl,λi s h=>?_,λi s nm h hn=>?_,λi j s s' nm W h2 e1 e2=>?_,λD ai=>?_,av⟩
     .rw [qaw] at h;by_cases hi:i=d.next
      .subst hi;exact Nat.lt_succ_self _
      .rw [zF hi] at h;exact Nat.lt_succ_of_lt (m.ownn i s h)
     .rw [qaw] at h;by_cases hi:i=d.next
      .have aa:Z=some nm:=by
        have:(if i=d.next then Z else w1.eta i)=some nm:=hn;rw [zT hi] at this;exact this
       exact (H nm aa).2
      .rw [zF hi] at h;have aa:w1.eta i=some nm:=by
        have:(if i=d.next then Z else w1.eta i)=some nm:=hn;rw [zF hi] at this;exact this
       exact m.eta i s nm h aa
     .rw [qaw] at W h2;have S:(if i=d.next then Z else w1.eta i)=some nm:=e1;have T:(if j=d.next then Z else w1.eta j)=some nm:=e2;by_cases hi:i=d.next<;>by_cases hj:j=d.next
      .omega
      .rw [zT hi] at S;rw [zF hj] at T h2;exact absurd T ((H nm S).1 j s' h2)
      .rw [zF hi] at S W;rw [zT hj] at T;exact absurd S ((H nm T).1 i s W)
      .rw [zF hi] at S W;rw [zF hj] at T h2;exact m.einj i j s s' nm W h2 S T
     .obtain ⟨⟨s2,R⟩,hp⟩:=m.pends D (ah D ai);refine ⟨⟨s2,R⟩,λnm E j s hj he=>?_⟩;rw [qaw] at hj;have I:(if j=d.next then Z else w1.eta j)=some nm:=he;by_cases aj:j=d.next
      .rw [zT aj] at I;rcases y with ⟨aw,a0,_⟩ | ⟨l2,i3,s3,aw,a0,ax,t⟩
       .rw [a0] at I;cases I
       .rw [a0] at I;have:=R2.einj D i3 s2 s3 nm R ax E I;subst this;have hd:=m.pdist;rw [t,List.cons_append,List.nodup_cons] at hd;exact hd.1 ai
      .rw [zF aj] at I hj;exact hp nm E j s hj I
    obtain ⟨U,f,w,g1,g2,J,g4,g5,g6,g7⟩:=qfg ok ok2 R2 O r2 P m' h';refine ⟨_,f,w,g1,g2,Q.trans J,.cons (Rep.mono ok.len J ?_) g4,g5,g6,g7⟩;have a7:∀ a1,F.owns d.next=some a1->q<=a1:=by
     intro a1 ay;have:look ((d.next,q)::d.owns) d.next=some a1:=ay
     rw [qaw,zT rfl] at this;cases this;exact zN _
    have az:q % 2=1->∀ v0,Rep X sz w2 B v0->NB v0:=by
     intro W v0 r0;have aA:Y=true:=by
      cases Y with
      | true=>rfl
      | false=>simp at hq;subst hq;cases W
     have ho:=ad aA;unfold zfj at ho;split at ho
     .cases r0;trivial
     .have hs:=zE ho;cases r0 with
      | nlist hh=>exact hh.2.2.2 hs
      | list _ _ _ _ _ _ _ _ hh=>exact hh.2.2.2 hs
     .cases ho
    rcases jv rl with ⟨rfl,rfl⟩ | ⟨nm,gn,off,z,cap,cs,e,ae,a9,af,ex,rfl,hg,hf,hM,aM,hz,aN,aB,_⟩
    .exact .nlist ⟨Nat.lt_succ_self _,a7,λ_=>trivial,λ_=>trivial⟩
    .have a2:=m.move ok2 rl .list;rcases jv a2 with ⟨_,hh⟩ | ⟨nm',aX,aO,z',aP,aY,e',aQ,al,aR,ex',hh,aC,aD,aE,ab,aZ,a3,a4,_⟩
     .cases hh
     .cases hh;refine .list aC aD aE rfl ab hz a3 (λi hi j p hp=>(a4 i hi j p hp).mono ok.len Q) ⟨Nat.lt_succ_self _,a7,λ_=>?_,λh=>az h _ r1⟩;rcases y with ⟨rfl,_⟩ | ⟨l2,D,s2,rfl,a0,R,_⟩
      .cases r1
      .have aF:l2=l:=by
        unfold asL at L;simp only at L;split at L
        .cases L;rfl
        .cases L
       subst aF;have N:q2a w2 sz D c (.slice nm gn off l2.length z cap):=by
        rcases jv r1 with ⟨_,hh⟩ | ⟨b0,b1,aS,z3,aT,b2,e3,aU,an,aV,b3,hh,_,_,_,_,_,_,_,aG⟩
        .cases hh
        .rw [hh];exact aG.2.2.1 (by rw [R2.owns];exact R)
       simp only [q2a] at N ⊢;rcases N with hc | ⟨aH,aI,aJ,e4,a5,ak,aK,aL,a6⟩
       .exact .inl hc
       .refine .inr ⟨aH,?_,aJ,e4,a5,ak,aK,by show w1.g nm=_;rw [m.g];exact aL,a6.1,a6.2.1,by show w1.ce e4=_;rw [m.ce];exact a6.2.2.1,a6.2.2.2⟩;show (if d.next=d.next then Z else w1.eta d.next)=some nm;rw [zT rfl,a0];exact aI
end
end Go.E3
/- E3: THE HEAD of a loop, and what stands behind a cut. -/
namespace Go.E3
open Go Go.E2
variable {K:Nat->Type}
theorem qx1 {α:Type}:∀ {l:List Nat} {t:Tree α} {n:Nat},(qty l t).get n=if n ∈ l then none else t.get n
 | [],t,n=>by simp [qty]
 | m::l,t,n=>by
  simp only [qty];rw [qx1,Tree.qr8];by_cases a:n ∈ l
  .simp [a]
  .by_cases b:n=m
   .subst b;simp [a]
   .simp [a,b]
theorem qma {α:Type}:∀ {a:List Nat} {l:List (Nat×α)} {j:Nat},look (a.foldl qa1 l) j=if j ∈ a then none else look l j
 | [],l,j=>by simp
 | i::a,l,j=>by
  simp only [List.foldl_cons];rw [qma,qfh];by_cases b:j ∈ a
  .simp [b]
  .by_cases c:j=i
   .subst c;simp [b]
   .simp [b,c]
theorem qco {α:Type}:∀ {l:List (Nat×α)} {n:Nat} {a:α},look l n=some a->(n,a) ∈ l
 | [],_,_,h=>by cases h
 | (i,b)::l,n,a,h=>by
  simp only [look,cond_eq_ite,Nat.beq_eq] at h;split at h
  .rename_i hi;subst hi;cases h;exact zC
  .exact zG _ (qco h)
theorem qf5:∀ {l:List Nat},distinct l=true->l.Nodup
 | [],_=>List.nodup_nil
 | i::l,h=>by
  simp only [distinct,zA,Bool.not_eq_true'] at h;rw [List.nodup_cons];refine ⟨λa=>?_,qf5 h.2⟩;have:=h.1;rw [<-Bool.not_eq_true,List.any_eq_true] at this;exact this ⟨i,a,Nat.beq_refl i⟩
section
variable {X:Codecs K} {sz:Nat->Nat} {C:ZC K} {base H0 H2:Heap} {st0 st2:StV K} {w0 w1 w2:Wd} {fr0 fr2:Fr}
variable {tbl:Tbl K} {inv:Nat->List (NV K)->Prop} {meas:Nat->List (NV K)->Nat}
theorem Rep.zl0 {w:Wd} {c:Nat} {l:List (K c)} {own:Option (Nat×Nat)} {v:V} (r:Rep X sz w (.list c l own) v):Rep X sz w (.list c l none) v/\qli w sz c own v:=by
 cases r with
 | nlist d=>exact ⟨.nlist trivial,d⟩
 | list e f g a h i b j d=>exact ⟨.list e f g a h i b j trivial,d⟩
theorem Rep.qh0 {w:Wd} {c:Nat} {l:List (K c)} {own:Option (Nat×Nat)} {v:V} (r:Rep X sz w (.list c l none) v) (h:qli w sz c own v):Rep X sz w (.list c l own) v:=by
 cases r with
 | nlist d=>exact .nlist h
 | list e f g a i j b k d=>exact .list e f g a i j b k h
theorem q8e {st:StV K} {w:Wd} (a:∀ i,w.owns i=look st.owns i) {c:Nat} {l:List (K c)} {i s:Nat} (h:qd6 st (.list c l (some (i,s)):PV K)=true):w.owns i=some s:=by
 rw [a];simp only [qd6] at h;split at h
 .simp_all
 .cases h
theorem q32 (ok2:CfgOk2 X C) (hle:Le w0 w1) (d:Le w0 w2) {c:Nat} {l A:List (K c)} {i s:Nat} {v0 v:V} (u:w2.owns i=some s) (w:w1.g=w2.g) (B:w1.M=w2.M) (D:Rep X sz w0 (.list c A (some (i,s))) v0) (E:Rep X sz w2 (.list c l (some (i,s))) v) :
  Rep X sz w1 (.list c l (some (i,s))) v:=by
 obtain ⟨p,x⟩:=E.zl0;obtain ⟨_,f⟩:=D.zl0;refine (p.plain ok2.plain w (λ_ _ _ F=>by rw [B];exact F) .list).qh0 ⟨zL f.1 hle.n,(qli.mono hle f).2.1,λm=>?_,x.2.2.2⟩;have o:=x.2.2.1 u;have j:w0.owns i=some s:=by
  cases j:w0.owns i with
  | none=>rw [hle.o1 i f.1 j] at m;cases m
  | some y=>
   have a:=f.2.1 y j;have b:=hle.o2 i y s f.1 j m;rw [Nat.le_antisymm b a]
 obtain ⟨G,_⟩:=hle.o3 i s f.1 j m;obtain ⟨H,_⟩:=d.o3 i s f.1 j u;have I:w1.ce=w2.ce:=hle.ce.trans d.ce.symm;cases v with
 | nils=>trivial
 | slice nm gn off len z cap=>
  rcases o with o | ⟨k,J,cs,e,h,q,ex,r,t⟩
  .exact .inl o
  .exact .inr ⟨k,by rw [G,<-H];exact J,cs,e,h,q,ex,by rw [w];exact r,t.1,t.2.1,by rw [I];exact t.2.2⟩
 | _=>exact o
mutual
theorem qvt (O:∀ c x,(X.cells c x).length=sz c) (ok2:CfgOk2 X C) (hle:Le w0 w1) (z:Le w0 w2) (B:∀ i,w2.owns i=look st2.owns i) (E:∀ id,id<w0.n->w1.c id=w2.c id) (I:w1.g=w2.g) (J:w1.M=w2.M):∀ (p d:PV K) {e:List Prop} {w v:V},
  qak (qu X tbl inv meas) st2 p d=some e->(∀ q ∈ e,q)->Rep X sz w0 p w->Rep X sz w2 d v->Rep X sz w1 p v
 | .int k l a,d,e,w,v,h,u,r,j=>by
  cases d with
  | int k' F b=>
   simp only [qak] at h;split at h
   .rename_i P;subst P;have:a=b:=by
     rcases G:q36 l F with _ | _
     .rw [G] at h;cases h;exact u _ zC
     .unfold q36 at G;split at G
      .rename_i x y;have Q:x=y:=of_decide_eq_true G;cases r with | int h0=>cases j with | int A=>
       rw [<-h0 x rfl,<-A y rfl,Q]
      .cases G
    subst this;cases j;cases r with | int m=>exact .int m
   .cases h
  | _=>simp [qak] at h
 | .lit a,d,e,w,v,h,u,r,j=>by
  cases d with
  | lit b=>
   simp only [qak] at h;split at h
   .rename_i P;subst P;cases j;exact .lit
   .cases h
  | _=>simp [qak] at h
 | .sb id neg a pt pf,d,e,w,v,h,u,r,j=>by
  cases d with
  | sb a1 a0 b a2 a3=>
   simp only [qak,zS] at h;subst h;have:a=b:=u _ zC;subst this;cases j;have:=r.mono O hle;cases r;exact this
  | _=>simp [qak] at h
 | .str a,d,e,w,v,h,u,r,j=>by
  cases d with
  | str b=>
   simp only [qak,zS] at h;subst h;have:a=b:=u _ zC;subst this;cases j;exact .str
  | _=>simp [qak] at h
 | .list c l o,d,e,w,v,h,u,r,j=>by
  cases o with
  | some x=>
   obtain ⟨i,s⟩:=x;cases d with
   | list L F N=>
    cases N with
    | none=>simp [qak] at h
    | some y=>
     obtain ⟨i',s'⟩:=y;simp only [qak] at h;rcases zz h with ⟨_,m⟩ | ⟨m,A⟩
     .cases m
     .simp only [zA] at m;obtain ⟨⟨H,R⟩,S⟩:=m;have:=zE H;subst this;have:=zE R;subst this;split at A
      .rename_i D;subst D;cases A;have:l=F:=u _ zC;subst this;exact q32 ok2 hle z (q8e B S) I J r j
      .cases A
   | _=>simp [qak] at h
  | none=>
   cases d with
   | list L F N=>
    cases N with
    | some x=>simp [qak] at h
    | none=>
     simp only [qak] at h;split at h
     .rename_i D;subst D;cases h;have:l=F:=u _ zC;subst this;exact j.plain ok2.plain I (λ_ _ _ hm=>by rw [J];exact hm) .list
     .cases h
   | _=>simp [qak] at h
 | .nils,d,e,w,v,h,u,r,j=>by
  cases d with
  | nils=>cases j;exact .nils
  | _=>simp [qak] at h
 | .cell i o l,d,e,w,v,h,u,r,j=>by
  cases d with
  | cell i' N F=>
   simp only [qak] at h;rcases zz h with ⟨_,m⟩ | ⟨m,_⟩
   .cases m
   .simp only [zA] at m;have H:=zE m.1.1;have R:=zE m.1.2;have S:=zE m.2;subst H;subst R;subst S;cases r with
    | cell hi=>
     cases j with
     | cell a4=>
      rw [<-E i hi];exact .cell (zL hi hle.n)
  | _=>simp [qak] at h
 | .eptr cs o,d,e,w,v,h,u,r,j=>by cases d<;>simp [qak] at h
 | .mlist i c fx n,d,e,w,v,h,u,r,j=>by
  cases d with
  | mlist i' L a5 n'=>
   simp only [qak] at h;rcases zz h with ⟨_,m⟩ | ⟨m,A⟩
   .cases m
   .simp only [zA] at m;have:=zE m.1.1;subst this;have:=zE m.1.2;subst this;have:=eq_of_beq m.2;subst this;cases A;have:n=n':=u _ zC;subst this;have hi:i<w0.n:=by cases r;assumption
    cases j with
    | mlist h3 h4 h5=>
     rw [<-E i hi];exact .mlist (zL hi hle.n) h4 h5
  | _=>simp [qak] at h
 | .nilp,d,e,w,v,h,u,r,j=>by
  cases d with
  | nilp=>cases j;exact .nilp
  | _=>simp [qak] at h
 | .func f a c,d,e,w,v,h,u,r,j=>by
  cases d with
  | func f' a' L=>
   simp only [qak] at h;rcases zz h with ⟨_,m⟩ | ⟨m,A⟩
   .cases m
   .have H:=zE m;subst H;obtain ⟨x,T,U⟩:=zI.1 A;obtain ⟨y,W,Y⟩:=zM.1 U;subst Y;cases r with
    | @func _ _ _ va vc q1 q2 q3 q4=>
     cases j with
     | @func _ _ _ a6 a7 p1 d p3 p4=>
      have g1:=qih O ok2 hle z B E I J a a' T (λq Z=>u q (List.mem_append_left _ Z)) ⟨q1,q3⟩ ⟨p1,p3⟩;have g2:=qih O ok2 hle z B E I J c L W (λq Z=>u q (List.mem_append_right _ Z)) ⟨q2,q4⟩ ⟨d,p4⟩;exact .func g1.1 g2.1 g1.2 g2.2
  | _=>simp [qak] at h
 | .nilf,d,e,w,v,h,u,r,j=>by
  cases d with
  | nilf=>cases j;exact .nilf
  | _=>simp [qak] at h
 | .yield i,d,e,w,v,h,u,r,j=>by
  cases d with
  | yield i'=>
   simp only [qak] at h;rcases zz h with ⟨_,m⟩ | ⟨m,_⟩
   .cases m
   .have:=zE m;subst this;have hi:i<w0.n:=by cases r;assumption
    cases j with
    | yield h3=>
     rw [<-E i hi];exact .yield (zL hi hle.n)
  | _=>simp [qak] at h
 | .map i,d,e,w,v,h,u,r,j=>by
  cases d with
  | map i'=>
   simp only [qak] at h;rcases zz h with ⟨_,m⟩ | ⟨m,_⟩
   .cases m
   .have:=zE m;subst this;have hi:i<w0.n:=by cases r;assumption
    cases j with
    | map h3=>
     rw [<-E i hi];exact .map (zL hi hle.n)
  | _=>simp [qak] at h
 | .iface t q,d,e,w,v,h,u,r,j=>by cases d<;>simp [qak] at h
 | .nili,d,e,w,v,h,u,r,j=>by
  cases d with
  | nili=>cases j;exact .nili
  | _=>simp [qak] at h
 | .agg cs,d,e,w,v,h,u,r,j=>by cases d<;>simp [qak] at h
 | .tuple cs,d,e,w,v,h,u,r,j=>by cases d<;>simp [qak] at h
theorem qih (u:∀ c x,(X.cells c x).length=sz c) (ok2:CfgOk2 X C) (hle:Le w0 w1) (e:Le w0 w2) (f:∀ i,w2.owns i=look st2.owns i) (w:∀ id,id<w0.n->w1.c id=w2.c id) (z:w1.g=w2.g) (A:w1.M=w2.M):∀ (ps d:List (PV K)) {a:List Prop} {b vs:List V},
  qov (qu X tbl inv meas) st2 ps d=some a->(∀ q ∈ a,q)->ql X sz w0 ps b->ql X sz w2 d vs->ql X sz w1 ps vs
 | [],[],a,b,vs,h,j,l,k=>by rw [k.z6];exact .nil
 | [],_::_,a,b,vs,h,j,l,k=>by simp [qov] at h
 | _::_,[],a,b,vs,h,j,l,k=>by simp [qov] at h
 | p::ps,D::d,a,b,vs,h,j,l,k=>by
  simp only [qov] at h;obtain ⟨x,m,o⟩:=zI.1 h;obtain ⟨y,r,s⟩:=zM.1 o;subst s;obtain ⟨J,B,rfl,E,F⟩:=l.zk;obtain ⟨v,G,rfl,H,I⟩:=k.zk;exact .cons (qvt u ok2 hle e f w z A p D m (λq t=>j q (List.mem_append_left _ t)) E H) (qih u ok2 hle e f w z A ps d r (λq t=>j q (List.mem_append_right _ t)) F I)
end
def q9i (a:Fr) (b:Heap) (w2:Wd):RSlot->List V->Prop
 | .one t _,vs=>∃ v,a.tmp t=some v/\vs=[v]
 | .agg t _,vs=>a.tmp t=some (.agg vs)
 | .var id _,vs=>w2.M (w2.c id)/\∃ e ex,b.get (w2.c id)=some (.row vs e 0 0 0 ex)
 | .ml ..,_=>False
 | .it ..,_=>False
def Good (a w2 w':Wd):Prop:=Le a w'/\w'.g=w2.g/\w'.M=w2.M/\w'.c=w2.c
def q7i (X:Codecs K) (sz:Nat->Nat) (st0:StV K) (a:Fr) (b:Heap) (c w2:Wd) (s:RSlot):Prop:=
 ∀ x,qbx st0 s=some x->∀ vs,q9i a b w2 s vs->∀ (i:Nat) (p:PV K),x.1[i]? = some .keep->x.2[i]? = some p->∀ w',Le c w'->w'.g=w2.g->w'.M=w2.M->Rep X sz w' p (vs.getD i zs)
def qqn (X:Codecs K) (sz:Nat->Nat) (a:Heap) (w2 w1:Wd) (id:Nat) (ct:ZT K):Prop:=w2.M (w2.c id)/\∀ w',Le w1 w'->qbq X sz w' id ct (a.get (w2.c id))
theorem q4b {A B:StV K} {s:RSlot} {x y:List SK×List (PV K)} (a:qbx A s=some x) (b:qbx B s=some y):x.1=y.1:=by
 cases s with
 | one t k=>
  simp only [qbx] at a b;obtain ⟨_,_,rfl⟩:=zM.1 a;obtain ⟨_,_,rfl⟩:=zM.1 b;rfl
 | agg t ks=>
  simp only [qbx] at a b;split at a
  .split at b
   .cases a;cases b;rfl
   .cases b
  .cases a
 | var id ks=>
  simp only [qbx] at a b;obtain ⟨_,_,rfl⟩:=zM.1 a;obtain ⟨_,_,rfl⟩:=zM.1 b;rfl
 | ml id c=>simp [qbx] at a
 | it id=>simp [qbx] at a
theorem qpg (d:Rel X sz C base st2 fr2 H2 w2) {s:RSlot} {y:List SK×List (PV K)} (h:qbx st2 s=some y):∃ vs,q9i fr2 H2 w2 s vs/\ql X sz w2 y.2 vs:=by
 cases s with
 | one t k=>
  simp only [qbx] at h;obtain ⟨p,a,rfl⟩:=zM.1 h;obtain ⟨v,g,b⟩:=d.f t p a;exact ⟨[v],⟨v,g,rfl⟩,.cons b .nil⟩
 | agg t ks=>
  simp only [qbx] at h;split at h
  .rename_i cs a;cases h;obtain ⟨v,g,b⟩:=d.f t _ a;obtain ⟨vs,rfl,i⟩:=b.qcw;exact ⟨vs,g,i⟩
  .cases h
 | var id ks=>
  simp only [qbx] at h;obtain ⟨ps,a,rfl⟩:=zM.1 h;obtain ⟨_,j,vs,e,ex,l,_,b⟩:=d.h.cells id _ (qk9 a);exact ⟨vs,⟨j,e,ex,l⟩,b⟩
 | ml id c=>simp [qbx] at h
 | it id=>simp [qbx] at h
theorem qcm (ok:CfgOk X sz C) (ok2:CfgOk2 X C) (N:Rel X sz C base st2 fr2 H2 w2):∀ {b:List RSlot} {ns:List (NV K)} {o:StV K} {w1:Wd} {G:List (NV K)->StV K->Prop},
  qc5 (qu X tbl inv meas) st2 b=some ns->(∀ s ∈ b,q7i X sz st0 fr2 H2 w0 w2 s)->Part X sz base st0 w0 st2 H2 w2 o w1 (kh st2 b)->qmy X sz w1 o.tmps fr2->
  (∀ id ps,look o.cells id=some ps->id ∈ qes b∨qqn X sz H2 w2 w1 id ps)->(∀ id,(look o.cells id).isSome=(look st0.cells id).isSome)->qca (qu X tbl inv meas) st0 b o G->
  ∃ f r,G ns f/\Part X sz base st0 w0 st2 H2 w2 f r []/\qmy X sz r f.tmps fr2/\(∀ id ps,look f.cells id=some ps->qqn X sz H2 w2 r id ps)/\(∀ id,(look f.cells id).isSome=(look st0.cells id).isSome)/\f.n=o.n
 | [],ns,o,w1,G,O,hK,m,hT,hC,hD,h=>by
  simp only [qc5,zS] at O;subst O;exact ⟨o,w1,h,m,hT,λid ps w=>(hC id ps w).elim (λhv=>by simp [qes] at hv) (λh=>h),hD,rfl⟩
 | s::b,ns,o,w1,G,O,hK,m,hT,hC,hD,h=>by
  by_cases a1:∃ id c,s=.ml id c
  .obtain ⟨id,c,rfl⟩:=a1;simp only [qc5] at O;obtain ⟨D,a2,E⟩:=zI.1 O;obtain ⟨ae,B,rfl⟩:=zM.1 E;simp only [qca] at h;obtain ⟨l0,a3,l⟩:=qf h;have g1:=l D;have F:=qfv a2;obtain ⟨_,hM,vs,e,ex,hg,_,hr⟩:=N.h.cells id _ F;have A:kh st2 (.ml id c::b)=kh st2 b:=rfl;rw [A] at m;have a4:ql X sz w1 (qj1 X (.ml c D)) vs:=by
    refine ⟨hr.1,λj p u=>m.move ok2 (hr.2 j p u) ?_⟩;obtain ⟨x,_,L⟩:=List.mem_flatMap.1 (List.mem_of_getElem? u);exact ok2.plain c x p L
   have P:Part X sz base st0 w0 st2 H2 w2 {o with cells:=qez o.cells id (.ml c D)} w1 (kh st2 b):=⟨m.g,m.M,m.ce,m.nx,m.c,m.cl,m.n,m.le,m.nxt,m.known,m.owns,m.ownn,m.eta,m.einj,m.pends,m.pdist⟩;have H:∀ d ps,look (qez o.cells id (.ml c D)) d=some ps->d ∈ qes b∨qqn X sz H2 w2 w1 d ps:=by
    intro d ps w;rw [qdh] at w;by_cases hi:d=id
    .rw [zT hi] at w;cases w;subst hi;exact .inr ⟨hM,λw' hw=>⟨vs,e,ex,hg,trivial,a4.mono ok.len hw⟩⟩
    .rw [zF hi] at w;rcases hC d ps w with l | l
     .simp only [qes,zD] at l;rcases l with l | l
      .exact absurd l hi
      .exact .inl l
     .exact .inr l
   have I:∀ d,(look (qez o.cells id (.ml c D)) d).isSome=(look st0.cells d).isSome:=by
    intro d;rw [qdh];by_cases hi:d=id
    .rw [zT hi,hi,qfv a3];rfl
    .rw [zF hi];exact hD d
   obtain ⟨z,Q,R,S,T,U,W,Y⟩:=qcm ok ok2 N B (λs' J=>hK s' (zG _ J)) P hT H I g1;exact ⟨z,Q,R,S,T,U,W,Y⟩
  have ai:∀ id c,s=.ml id c->False:=λid c Z=>a1 ⟨id,c,Z⟩;by_cases a5:∃ id c lf va,s=.it id c lf va
  .obtain ⟨id,c,lf,va,rfl⟩:=a5;simp only [qc5] at O;obtain ⟨D,a2,E⟩:=zI.1 O;obtain ⟨ae,B,rfl⟩:=zM.1 E;simp only [qca] at h;obtain ⟨l0,a3,l⟩:=qf h;have g1:=l D;have F:=qvi a2;obtain ⟨_,hM,es,a6,hg,af,hr⟩:=N.h.cells id _ F;have A:kh st2 (.it id c lf va::b)=kh st2 b:=rfl;rw [A] at m;have mv:∀ (x:K c) (n:Nat) (ps:List (PV K)) (vs:List V),(∀ p ∈ ps,p ∈ X.cells c x)->ql X sz w2 ps vs->ql X sz w1 ps vs:=λx n ps vs u hv=>⟨hv.1,λj p hj=>m.move ok2 (hv.2 j p hj) (ok2.plain c x p (u p (List.mem_of_getElem? hj)))⟩;have a4:∀ (i:Nat) (x:K c) (e:V×V×Nat),D[i]? = some x->es[i]? = some e->q9h X sz w1 c lf va x e:=λi x e L Z=>by
    obtain ⟨q1,q2,q3,q4⟩:=hr i x e L Z;exact ⟨mv x 0 _ _ (λp u=>List.mem_of_mem_take u) q1,q2,mv x 0 _ _ (λp u=>List.mem_of_mem_drop u) q3,q4⟩
   have P:Part X sz base st0 w0 st2 H2 w2 {o with cells:=qez o.cells id (.mp c lf va D)} w1 (kh st2 b):=⟨m.g,m.M,m.ce,m.nx,m.c,m.cl,m.n,m.le,m.nxt,m.known,m.owns,m.ownn,m.eta,m.einj,m.pends,m.pdist⟩;have H:∀ d ps,look (qez o.cells id (.mp c lf va D)) d=some ps->d ∈ qes b∨qqn X sz H2 w2 w1 d ps:=by
    intro d ps w;rw [qdh] at w;by_cases hi:d=id
    .rw [zT hi] at w;cases w;subst hi;exact .inr ⟨hM,λw' hw=>⟨es,a6,hg,af,λi x e L Z=>by
      obtain ⟨q1,q2,q3,q4⟩:=a4 i x e L Z;exact ⟨q1.mono ok.len hw,q2,q3.mono ok.len hw,q4⟩⟩⟩
    .rw [zF hi] at w;rcases hC d ps w with l | l
     .simp only [qes,zD] at l;rcases l with l | l
      .exact absurd l hi
      .exact .inl l
     .exact .inr l
   have I:∀ d,(look (qez o.cells id (.mp c lf va D)) d).isSome=(look st0.cells d).isSome:=by
    intro d;rw [qdh];by_cases hi:d=id
    .rw [zT hi,hi,qvi a3];rfl
    .rw [zF hi];exact hD d
   obtain ⟨z,Q,R,S,T,U,W,Y⟩:=qcm ok ok2 N B (λs' J=>hK s' (zG _ J)) P hT H I g1;exact ⟨z,Q,R,S,T,U,W,Y⟩
  have aj:∀ id c lf va,s=.it id c lf va->False:=λid c lf va Z=>a5 ⟨id,c,lf,va,Z⟩;simp only [qc5] at O;obtain ⟨y,hy,E⟩:=zI.1 O;obtain ⟨a,ha,ag⟩:=zI.1 E;obtain ⟨ae,B,rfl⟩:=zM.1 ag;simp only [qca] at h;split at h
  .exact absurd h id
  .rename_i x L;obtain ⟨vs,a0,hr⟩:=qpg N hy;have hk:=q4b L hy;rw [<-hk] at ha;have A:kh st2 (s::b)=qas x.1 y.2++kh st2 b:=by
    simp only [kh,hy];rw [hk]
   rw [A] at m;obtain ⟨qs,f,r,g1,g2,g3,g4,g5,g6,g7⟩:=qfg ok ok2 N.h ha hr (hK s zC x L vs a0) m h;have a7:qmy X sz r f.tmps fr2:=by
    intro i p u;rw [g5] at u;obtain ⟨v,l,h2⟩:=hT i p u;exact ⟨v,l,h2.mono ok.len g3⟩
   have a8:∀ id ps,look f.cells id=some ps->id ∈ qes (s::b)∨qqn X sz H2 w2 r id ps:=by
    intro id ps w;rw [g7] at w;rcases hC id ps w with l | ⟨h0,l⟩
    .exact .inl l
    .exact .inr ⟨h0,λw' hw=>l w' (g3.trans hw)⟩
   have a9:∀ id,(look f.cells id).isSome=(look st0.cells id).isSome:=by
    intro id;rw [g7];exact hD id
   have aa:∀ s' ∈ b,q7i X sz st0 fr2 H2 w0 w2 s':=λs' J=>hK s' (zG _ J);cases s with
   | ml id c=>exact absurd ⟨id,c,rfl⟩ a1
   | it id c lf va=>exact absurd ⟨id,c,lf,va,rfl⟩ a5
   | one t k=>
    simp only at g1;split at g1
    .rename_i q;obtain ⟨v,hv,rfl⟩:=a0;obtain ⟨v',_,Z,hq,_⟩:=g4.zk;cases Z;have P:Part X sz base st0 w0 st2 H2 w2 {f with tmps:=f.tmps.set t q} r (kh st2 b):=⟨g2.g,g2.M,g2.ce,g2.nx,g2.c,g2.cl,g2.n,g2.le,g2.nxt,g2.known,g2.owns,g2.ownn,g2.eta,g2.einj,g2.pends,g2.pdist⟩;have ab:qmy X sz r (f.tmps.set t q) fr2:=by
      intro i p u;rw [Tree.zn] at u;by_cases hi:i=t
      .rw [zT hi] at u;cases u;subst hi;exact ⟨v,hv,hq⟩
      .rw [zF hi] at u;exact a7 i p u
     obtain ⟨z,Q,R,S,T,U,W,Y⟩:=qcm ok ok2 N B aa P ab a8 a9 g1;exact ⟨z,Q,R,S,T,U,W,Y.trans g6⟩
    .exact absurd g1 id
   | agg t ks=>
    simp only at g1;have P:Part X sz base st0 w0 st2 H2 w2 {f with tmps:=f.tmps.set t (.agg qs)} r (kh st2 b):=⟨g2.g,g2.M,g2.ce,g2.nx,g2.c,g2.cl,g2.n,g2.le,g2.nxt,g2.known,g2.owns,g2.ownn,g2.eta,g2.einj,g2.pends,g2.pdist⟩;have ab:qmy X sz r (f.tmps.set t (.agg qs)) fr2:=by
     intro i p u;rw [Tree.zn] at u;by_cases hi:i=t
     .rw [zT hi] at u;cases u;subst hi;exact ⟨_,a0,.qqq g4⟩
     .rw [zF hi] at u;exact a7 i p u
    obtain ⟨z,Q,R,S,T,U,W,Y⟩:=qcm ok ok2 N B aa P ab a8 a9 g1;exact ⟨z,Q,R,S,T,U,W,Y.trans g6⟩
   | var id ks=>
    simp only at g1;have P:Part X sz base st0 w0 st2 H2 w2 {f with cells:=qez f.cells id (.cs none qs)} r (kh st2 b):=⟨g2.g,g2.M,g2.ce,g2.nx,g2.c,g2.cl,g2.n,g2.le,g2.nxt,g2.known,g2.owns,g2.ownn,g2.eta,g2.einj,g2.pends,g2.pdist⟩;obtain ⟨ah,e,ex,hg⟩:=a0;have H:∀ d ps,look (qez f.cells id (.cs none qs)) d=some ps->d ∈ qes b∨qqn X sz H2 w2 r d ps:=by
     intro d ps w;rw [qdh] at w;by_cases hi:d=id
     .rw [zT hi] at w;cases w;subst hi;exact .inr ⟨ah,λw' hw=>⟨vs,e,ex,hg,trivial,g4.mono ok.len hw⟩⟩
     .rw [zF hi] at w;rcases a8 d ps w with l | l
      .simp only [qes,zD] at l;rcases l with l | l
       .exact absurd l hi
       .exact .inl l
      .exact .inr l
    have ad:(look st0.cells id).isSome=true:=by
     simp only [qbx] at L;obtain ⟨ps,l,_⟩:=zM.1 L;rw [qk9 l];rfl
    have I:∀ d,(look (qez f.cells id (.cs none qs)) d).isSome=(look st0.cells d).isSome:=by
     intro d;rw [qdh];by_cases hi:d=id
     .rw [zT hi,hi,ad];rfl
     .rw [zF hi];exact a9 d
    obtain ⟨z,Q,R,S,T,U,W,Y⟩:=qcm ok ok2 N B aa P a7 H I g1;exact ⟨z,Q,R,S,T,U,W,Y.trans g6⟩
theorem qvm (A:zl2 K):∀ {ks:List SK} {ps:List (PV K)} {ns:List (NV K)} {i:Nat},qmx A st2 ks ps=some ns->i ∈ qas ks ps->∃ s,look st2.owns i=some s
 | [],ps,ns,i,_,h=>by cases ps<;>simp [qas] at h
 | _::_,[],ns,i,h,_=>by simp [qmx] at h
 | k::ks,p::ps,ns,i,h,hi=>by
  simp only [qmx] at h;obtain ⟨a,f,g⟩:=zI.1 h;obtain ⟨r,m,_⟩:=zM.1 g;have d:i ∈ qas ks ps->∃ s,look st2.owns i=some s:=qvm A m;cases k with
  | list c own n=>
   cases own with
   | false=>
    have e:qas (.list c false n::ks) (p::ps)=qas ks ps:=by cases p<;>rfl
    rw [e] at hi;exact d hi
   | true=>
    cases p with
    | list u l o=>
     cases o with
     | none=>exact d hi
     | some x=>
      obtain ⟨j,s⟩:=x;simp only [qas,zD] at hi;rcases hi with rfl | hi
      .simp only [quw] at f;rcases zz f with ⟨b,_⟩ | ⟨_,b⟩
       .simp only [Bool.true_and] at b;simp only [qd6] at b;split at b
        .rename_i q t;exact ⟨q,t⟩
        .cases b
       .cases b
      .exact d hi
    | _=>exact d hi
  | _=>exact d hi
theorem qgj (A:zl2 K):∀ {b:List RSlot} {ns:List (NV K)} {i:Nat},qc5 A st2 b=some ns->i ∈ kh st2 b->∃ s,look st2.owns i=some s
 | [],ns,i,_,h=>by simp [kh] at h
 | s::b,ns,i,h,hi=>by
  by_cases d:∃ id c,s=.ml id c
  .obtain ⟨id,c,rfl⟩:=d;simp only [qc5] at h;obtain ⟨y,j,e⟩:=zI.1 h;obtain ⟨r,f,_⟩:=zM.1 e;exact qgj A f hi
  have l:∀ id c,s=.ml id c->False:=λid c k=>d ⟨id,c,k⟩;by_cases g:∃ id c lf va,s=.it id c lf va
  .obtain ⟨id,c,lf,va,rfl⟩:=g;simp only [qc5] at h;obtain ⟨y,j,e⟩:=zI.1 h;obtain ⟨r,f,_⟩:=zM.1 e;exact qgj A f hi
  have m:∀ id c lf va,s=.it id c lf va->False:=λid c lf va k=>g ⟨id,c,lf,va,k⟩;simp only [qc5] at h;obtain ⟨y,j,e⟩:=zI.1 h;obtain ⟨a,n,o⟩:=zI.1 e;obtain ⟨r,f,_⟩:=zM.1 o;simp only [kh,j,List.mem_append] at hi;rcases hi with hi | hi
  .exact qvm A n hi
  .exact qgj A f hi
theorem qx6 (ok:CfgOk X sz C) (ok2:CfgOk2 X C) (q:Rel X sz C base st0 fr0 H0 w0) (d:Rel X sz C base st2 fr2 H2 w2) (hle:Le w0 w2) {ds:List Nat} {a:List RSlot} {ns:List (NV K)} {G:List (NV K)->StV K->Prop}
  (hn:st2.n=st0.n) (U:∀ t,t ∉ ds->fr2.tmp t=fr0.tmp t) (V:qc5 (qu X tbl inv meas) st2 a=some ns) (hK:∀ s ∈ a,q7i X sz st0 fr2 H2 w0 w2 s)
  (hC:∀ id ps,look st0.cells id=some ps->id ∈ qes a∨∀ w',Good w0 w2 w'->qqn X sz H2 w2 w' id ps)
  (e:∀ i s,look (qdn st0 ds a).owns i=some s->look st2.owns i=some s) (J:∀ i ∈ kh st2 a,look (qdn st0 ds a).owns i=none) (D:distinct (kh st2 a)=true)
  (h:qca (qu X tbl inv meas) st0 a (qdn st0 ds a) G):∃ k w1,G ns k/\Rel X sz C base k fr2 H2 w1/\Le w0 w1/\k.n=st0.n:=by
 have r:∀ i,look (qdn st0 ds a).owns i=if i ∈ kh st0 a then none else look st0.owns i:=λi=>qma
 have B:∀ i s,look (qdn st0 ds a).owns i=some s->look st0.owns i=some s:=by
  intro i s hi;rw [r] at hi;split at hi
  .cases hi
  .exact hi
 let w1:Wd:={w2 with n:=st0.next,owns:=look (qdn st0 ds a).owns,cl:=λid=>w2.cl id/\id<st0.next};have z:w0.n=st0.next:=q.h.n
 have u:Le w0 w1:=by
  refine ⟨⟨by rw [z];exact zN _,hle.mem,hle.c,hle.nu,λi hi E=>?_,λi s S hi E l=>?_,λi s hi E l=>?_,hle.ce,λid hi=>⟨λL=>(hle.cl id hi).1 L.1,λL=>⟨(hle.cl id hi).2 L,by rw [<-z];exact hi⟩⟩,hle.nx,hle.b,hle.Mu,hle.lp⟩,hle.df,hle.fl⟩
  .rw [q.h.owns] at E;show look (qdn st0 ds a).owns i=none;rw [r,E]
   split<;>rfl
  .rw [q.h.owns] at E;have:=B i S l;rw [E] at this;cases this;exact zN _
  .have w:w2.owns i=some s:=by rw [d.h.owns];exact e i s l
   exact hle.o3 i s hi E w
 have m:Part X sz base st0 w0 st2 H2 w2 (qdn st0 ds a) w1 (kh st2 a):=by
  refine ⟨rfl,rfl,rfl,rfl,rfl,λ_=>.rfl,rfl,u,zN _,rfl,rfl,λi s hi=>q.h.ownn i s (B i s hi),λi s nm hi I=>d.h.eta i s nm (e i s hi) I,λi j s S nm l w e1 e2=>d.h.einj i j s S nm (e i s l) (e j S w) e1 e2,λi2 F=>⟨qgj _ V F,λnm W j s Y I=>?_⟩,qf5 D⟩;obtain ⟨s2,Z⟩:=qgj _ V F;have:=d.h.einj i2 j s2 s nm Z (e j s Y) W I;subst this;rw [J i2 F] at Y;cases Y
 have hT:qmy X sz w1 (qdn st0 ds a).tmps fr2:=by
  intro t p hp;have A:(qty ds st0.tmps).get t=some p:=hp;rw [qx1] at A;split at A
  .cases A
  .rename_i ht;obtain ⟨v,l,w⟩:=q.f t p A;exact ⟨v,by rw [U t ht];exact l,w.mono ok.len u⟩
 have H:Good w0 w2 w1:=⟨u,rfl,rfl,rfl⟩;obtain ⟨k,N,g1,g2,g3,g4,g5,g6⟩:=qcm ok ok2 d V hK m hT (λid ps T=>(hC id ps T).imp_right λL=>L w1 H) (λ_=>rfl) h;have a2:q19 base.next N fr2.defers:=by
  have O:N.fl=w2.fl:=g2.le.fl.trans hle.fl.symm;refine ⟨λx hx=>?_,d.ds.2.1,by rw [O,g2.nx];exact d.ds.2.2⟩;obtain ⟨m,l,w,h3,h4⟩:=d.ds.1 x hx;exact ⟨m,l,w,by rw [O];exact h3,by rw [g2.g];exact h4⟩
 refine ⟨k,N,g1,⟨?_,g3,?_,a2⟩,g2.le,g6⟩
 .have P:∀ id,(look k.cells id).isSome=true->w0.cl id/\id<st0.next:=by
   intro id hs;rw [g5] at hs;obtain ⟨ps,a3⟩:=Option.isSome_iff_exists.1 hs;obtain ⟨o,y,_⟩:=q.h.cells id ps a3;exact ⟨o,(q.h.cl id o).1⟩
  refine ⟨d.h.wf,d.h.rob,g2.g.trans d.h.g,g2.nx.trans d.h.nx,g2.le.b.trans q.h.b,λn hM=>d.h.Mlt n (by rw [<-g2.M];exact hM),g2.n,zR q.h.one g2.nxt,d.h.keeps,λid hc=>?_,λid Q l w I=>?_,λid ps T=>?_,λi=>by rw [g2.owns],g2.ownn,λi s nm l w=>?_,g2.einj,g2.ce.trans d.h.ce,λid b hk=>?_,λgn ps hg=>?_⟩
  .obtain ⟨c1,c2⟩:=(g2.cl id).1 hc;obtain ⟨o,y,R⟩:=d.h.cl id c1;exact ⟨zL c2 g2.nxt,by rw [g2.c];exact y,by rw [g2.c];exact R⟩
  .rw [g2.c] at I;exact d.h.cinj id Q ((g2.cl id).1 l).1 ((g2.cl Q).1 w).1 I
  .obtain ⟨o,y⟩:=P id (by rw [T];rfl);have hi:id<w0.n:=by rw [z];exact y
   obtain ⟨a0,a1⟩:=g4 id ps T;refine ⟨(g2.cl id).2 ⟨(hle.cl id hi).2 o,y⟩,by rw [g2.c,g2.M];exact a0,by rw [g2.c];exact a1 N (.refl N)⟩
  .obtain ⟨o,y,R⟩:=g2.eta i s nm l w;exact ⟨o,y,by rw [g2.M];exact R⟩
  .rw [g2.known] at hk;obtain ⟨q0,o,y⟩:=q.h.known id b hk;exact ⟨q0,zL o g2.nxt,by rw [g2.le.nu id (by rw [z];exact o)];exact y⟩
  .obtain ⟨q0,a4,e',fl,fz,ex',o,y,R⟩:=q.h.globs gn ps hg;exact ⟨q0,a4,e',fl,fz,ex',o,y,R.mono ok.len g2.le⟩
 .rw [d.n,hn,g6];rfl
end
end Go.E3
/- E3: CODE against E2's. -/
namespace Go.E3
open Go Go.E2
variable {K:Nat->Type}
section
variable {X:Codecs K} {sz:Nat->Nat} {C:ZC K} {base:Heap}
variable {tbl:Tbl K} {inv:Nat->List (NV K)->Prop} {meas:Nat->List (NV K)->Nat} {inl:ZI K}
theorem q62 {d:Fr} {h:Heap} {w2:Wd} {s:RSlot} {vs us:List V} (f:q9i d h w2 s vs) (g:q9i d h w2 s us):vs=us:=by
 cases s with
 | one t k=>
  obtain ⟨v,a,rfl⟩:=f;obtain ⟨u,b,rfl⟩:=g;rw [a] at b;cases b;rfl
 | agg t ks=>
  have a:d.tmp t=some (.agg vs):=f;have b:d.tmp t=some (.agg us):=g;rw [a] at b;cases b;rfl
 | var id ks=>
  obtain ⟨_,e,ex,a⟩:=f;obtain ⟨_,i,ex',b⟩:=g;rw [a] at b;cases b;rfl
 | ml id c=>exact False.elim f
 | it id=>exact False.elim f
theorem qse {st0 st2:StV K}:∀ {ks:List SK} {f e:List (PV K)} {c:List Prop},qnp (qu X tbl inv meas) st2 ks f e=some c->(∀ q ∈ c,q)->∀ (i:Nat) (p:PV K),ks[i]? = some .keep->f[i]? = some p->
  ∃ g o,e[i]? = some g/\qak (qu X tbl inv meas) st2 p g=some o/\∀ q ∈ o,q
 | [],f,e,c,h,m,i,p,l,j=>by simp at l
 | k::ks,[],e,c,h,m,i,p,l,j=>by simp at j
 | k::ks,a::f,[],c,h,m,i,p,l,j=>by cases k<;>simp [qnp] at h
 | k::ks,a::f,b::e,c,h,m,i,p,l,j=>by
  have rest:∀ d,qnp (qu X tbl inv meas) st2 ks f e=some d->(∀ q ∈ d,q)->∀ i',i=i'+1->∃ g o,(b::e)[i]? = some g/\qak (qu X tbl inv meas) st2 p g=some o/\∀ q ∈ o,q:=by
   intro d n r i' hi;subst hi;obtain ⟨g,o,s,t,u⟩:=qse (st0:=st0) (st2:=st2) n r i' p (by simpa using l) (by simpa using j);exact ⟨g,o,by simpa using s,t,u⟩
  cases k with
  | keep=>
   obtain ⟨x,v,n⟩:=zI.1 h;obtain ⟨y,z,rfl⟩:=zM.1 n;cases i with
   | zero=>
    simp only [List.getElem?_cons_zero,zS] at j;subst j;exact ⟨b,x,rfl,v,λq w=>m q (List.mem_append_left _ w)⟩
   | succ i=>simp_all
  | _=>
   have A:qnp (qu X tbl inv meas) st2 ks f e=some c:=h;cases i with
   | zero=>simp at l
   | succ i=>grind
theorem qe8 {st0 st2:StV K}:∀ {b:List RSlot} {e:List Prop},qed (qu X tbl inv meas) st0 st2 b=some e->(∀ q ∈ e,q)->∀ s ∈ b,((∃ id c,s=.ml id c)∨∃ id c lf va,s=.it id c lf va)∨∃ x y o,qbx st0 s=some x/\qbx st2 s=some y/\qnp (qu X tbl inv meas) st2 x.1 x.2 y.2=some o/\∀ q ∈ o,q
 | [],e,_,_,s,d=>by cases d
 | i::b,e,h,j,s,d=>by
  by_cases f:∃ id c,i=.ml id c
  .obtain ⟨id,c,rfl⟩:=f;simp only [qed] at h;rcases zD.1 d with rfl | d
   .exact .inl (.inl ⟨id,c,rfl⟩)
   .exact qe8 h j s d
  have m:∀ id c,i=.ml id c->False:=λid c k=>f ⟨id,c,k⟩;by_cases g:∃ id c lf va,i=.it id c lf va
  .obtain ⟨id,c,lf,va,rfl⟩:=g;simp only [qed] at h;rcases zD.1 d with rfl | d
   .exact .inl (.inr ⟨id,c,lf,va,rfl⟩)
   .exact qe8 h j s d
  have n:∀ id c lf va,i=.it id c lf va->False:=λid c lf va k=>g ⟨id,c,lf,va,k⟩;simp only [qed] at h;obtain ⟨x,p,t⟩:=zI.1 h;obtain ⟨y,u,v⟩:=zI.1 t;obtain ⟨a,w,z⟩:=zI.1 v;obtain ⟨r,A,rfl⟩:=zM.1 z;rcases zD.1 d with rfl | d
  .exact .inr ⟨x,y,a,p,u,w,λq l=>j q (List.mem_append_left _ l)⟩
  .exact qe8 A (λq l=>j q (List.mem_append_right _ l)) s d
theorem qhu {b:List Nat} {st2:StV K}:∀ {l:List (Nat×ZT K)} {a:List Prop},qin (qu X tbl inv meas) b st2 l=some a->(∀ q ∈ a,q)->∀ id ct,(id,ct) ∈ l->id ∈ b∨∃ o,qos (qu X tbl inv meas) st2 id ct=some o/\∀ q ∈ o,q
 | [],a,_,_,id,ps,h=>by cases h
 | (i,cs)::l,a,h,d,id,ps,c=>by
  simp only [qin] at h;rcases zz h with ⟨m,e⟩ | ⟨m,e⟩
  .obtain ⟨x,n,p⟩:=zI.1 e;obtain ⟨y,r,rfl⟩:=zM.1 p;rcases zD.1 c with f | c
   .cases f;exact .inr ⟨x,n,λq g=>d q (List.mem_append_left _ g)⟩
   .exact qhu r (λq g=>d q (List.mem_append_right _ g)) id ps c
  .rcases zD.1 c with f | c
   .cases f;obtain ⟨j,s,k⟩:=List.any_eq_true.1 m;have:=zE k;subst this;exact .inl s
   .exact qhu e d id ps c
theorem cond_prop {c:Bool} {p:Prop} (h:if c then p else False):c=true/\p:=by
 cases c with
 | false=>simp_all
 | true=>exact ⟨rfl,h⟩
theorem zjz {t c:Option TypeId} {ps d:List (PV K)} {e:TypeId} {ex:Bool} (h:zuo t c=true) (f:qwu (.cs c d) e ex):qwu (.cs t ps) e ex:=by
 cases t with
 | none=>trivial
 | some a=>
  cases c with
  | none=>cases h
  | some b=>
   have:=zE h;subst this;exact f
theorem zbx {j:Nat} {seen:List (NV K)} {c:List RSlot} {dec:Option (List (NV K))} {st0 e st2:StV K} (h:qz9 (qu X tbl inv meas) j seen c dec st0 e st2) :
  ∃ d a b,qc5 (qu X tbl inv meas) st2 c=some d/\qed (qu X tbl inv meas) st0 st2 c=some a/\qin (qu X tbl inv meas) (qes c) st2 st0.cells=some b/\(∀ q ∈ a,q)/\(∀ q ∈ b,q)/\
   distinct (kh st2 c)=true/\(∀ i ∈ kh st2 c,look e.owns i=none)/\(∀ i s,look e.owns i=some s->look st2.owns i=some s)/\inv j (d++seen)/\(∀ m,dec=some m->meas j (d++seen)<meas j (m++seen)):=by
 unfold qz9 at h;split at h
 .rename_i d a b l n o;obtain ⟨f,h⟩:=cond_prop h;simp only [zA] at f;obtain ⟨p,r⟩:=qrm h;obtain ⟨t,k⟩:=qrm r;refine ⟨d,a,b,l,n,o,p,t,f.1.1,λi hi=>?_,λi s hi=>?_,k.1,λm u=>?_⟩
  .cases v:look e.owns i with
   | none=>rfl
   | some s=>
    have:=List.all_eq_true.1 f.1.2 i hi;simp only [Bool.not_eq_true',<-Bool.not_eq_true,List.any_eq_true] at this;exact absurd ⟨(i,s),qco v,Nat.beq_refl i⟩ this
  .have:=List.all_eq_true.1 f.2 (i,s) (qco hi);split at this
   .rename_i w g;have:=zE this;rw [g,this]
   .cases this
  .subst u;exact k.2
 .exact absurd h id
theorem q0w (ok:CfgOk X sz C) (ok2:CfgOk2 X C) {st0 st2:StV K} {fr0 B:Fr} {H0 H2:Heap} {w0 w2:Wd} (M:Rel X sz C base st0 fr0 H0 w0) (w:Rel X sz C base st2 B H2 w2) (hle:Le w0 w2) {j:Nat} {seen:List (NV K)} {ds:List Nat} {f:List RSlot} {dec:Option (List (NV K))}
  (hn:B.n=fr0.n) (a3:∀ t,t ∉ ds->B.tmp t=fr0.tmp t) (O:qz9 (qu X tbl inv meas) j seen f dec st0 (qdn st0 ds f) st2) :
  ∃ P,inv j (P++seen)/\(∀ m,dec=some m->meas j (P++seen)<meas j (m++seen))/\∀ G:List (NV K)->StV K->Prop,qca (qu X tbl inv meas) st0 f (qdn st0 ds f) G->∃ I w1,G P I/\Rel X sz C base I B H2 w1/\Le w0 w1/\I.n=st0.n:=by
 obtain ⟨P,a,b,hN,hK,hS,ha,a4,hd,Q,R,S,T⟩:=zbx O;refine ⟨P,S,T,λG hG=>qx6 ok ok2 M w hle (by rw [<-w.n,hn,M.n]) a3 hN (λs hs=>?_) (λid ps hl=>?_) R Q hd hG⟩
 .rcases qe8 hK ha s hs with (⟨id,c,rfl⟩ | ⟨id,c,lf,va,rfl⟩) | ⟨x,y,o,hx,hy,ho,hq⟩
  .intro x' q;simp [qbx] at q
  .intro x' q;simp [qbx] at q
  intro x' q vs a5 i p hk k w' z d J;rw [hx] at q;cases q;obtain ⟨p2,o2,a6,a7,a8⟩:=qse (st0:=st0) (st2:=st2) ho hq i p hk k;obtain ⟨a9,_,N⟩:=qpg M hx;obtain ⟨D,U,E⟩:=qpg w hy;have:=q62 a5 U;subst this;obtain ⟨v0,_,q0⟩:=N.get k;have q2:=E.2 i p2 a6;exact qvt ok.len ok2 z hle w.h.owns (λid hi=>by rw [z.c id hi,hle.c id hi]) d J p p2 a7 a8 q0 q2
 .rcases qhu hS a4 id ps (qco hl) with z | ⟨o,d,J⟩
  .exact .inl z
  .right;intro w' hg;obtain ⟨g1,g2,g3,g4⟩:=hg;obtain ⟨W,_,N⟩:=M.h.cells id ps hl;have u:id<w0.n:=by rw [M.h.n];exact (M.h.cl id W).1
   cases ps with
   | lp r=>
    simp only [qos] at d;split at d
    .rename_i r' aa;rcases zz d with ⟨_,d⟩ | ⟨Y,_⟩
     .cases d
     obtain ⟨_,F,gg,p1,p2,_⟩:=w.h.cells id _ aa;obtain ⟨ab,q1,_,q3,q4,q5,q6,q7⟩:=N;have e1:gg=ab:=by
      rw [hle.lp id u,q1] at p1;exact (Option.some.inj p1).symm
     subst e1;have e2:r'.mode=r.mode:=by
      revert Y;cases r.mode<;>cases r'.mode<;>simp [q6w]
     refine ⟨F,λH A=>⟨gg,?_,by rw [p2,e2],q3,q4,q5,q6,λi p k=>?_⟩⟩
     .rw [A.lp id (zL u g1.n),g1.lp id u];exact q1
     .obtain ⟨v,a,b⟩:=q7 i p k;exact ⟨v,a,b.mono ok.len (g1.trans A)⟩
    .cases d
   | cs t ps=>
    obtain ⟨a9,_,_,_,ah,N⟩:=N;rcases zz d with ⟨_,d⟩ | ⟨hty,d⟩
    .cases d
    obtain ⟨dd,z,d⟩:=zI.1 d;obtain ⟨_,F,D,e,ex,g,ad,E⟩:=w.h.cells id _ (qk9 z);exact ⟨F,λH A=>⟨D,e,ex,g,zjz hty ad,(qih ok.len ok2 g1 hle w.h.owns (λid hi=>by rw [g1.c id hi,hle.c id hi]) g2 g3 ps dd d J N E).mono ok.len A⟩⟩
   | si s n=>
    obtain ⟨x,z,rfl⟩:=zM.1 d;have ae:s=x.1:=J _ zC;have af:n=x.2:=J _ (zG _ zC);obtain ⟨_,F,pos,Z,g⟩:=w.h.cells id _ (qyf z);exact ⟨F,λH A=>⟨pos,af.trans Z,by rw [ae];exact g⟩⟩
   | mp c lf va l=>
    simp only [qos] at d;split at d
    .rename_i m Y;split at d
     .rename_i hc;obtain ⟨c',ai,aj,l'⟩:=m;simp only at hc;subst hc;rcases zz d with ⟨_,d⟩ | ⟨O,d⟩
      .cases d
      cases d;have he:l=l':=J _ zC;subst he;simp only [zA,beq_iff_eq] at O;have e1:=qou O.1;have e2:=O.2;subst e1;subst e2;have ag:look st2.cells id=some (.mp c' lf va l):=by
       unfold qye at Y;split at Y
       .simp_all
       .cases Y
      obtain ⟨_,F,es,L,g,a0,a1⟩:=w.h.cells id _ ag;have pl:∀ {x:K c'} {ps:List (PV K)} {vs:List V},(∀ p ∈ ps,p ∈ X.cells c' x)->ql X sz w2 ps vs->ql X sz w' ps vs:=λa2 E=>
       ⟨E.1,λj p k=>(E.2 j p k).plain ok2.plain g2 (λ_ _ _ h=>by rw [g3];exact h) (ok2.plain c' _ p (a2 p (List.mem_of_getElem? k)))⟩
      refine ⟨F,λH A=>⟨es,L,g,a0,λi x e a b=>?_⟩⟩;obtain ⟨z1,z2,z3,z4⟩:=a1 i x e a b;exact ⟨(pl (λp k=>List.mem_of_mem_take k) z1).mono ok.len A,z2,(pl (λp k=>List.mem_of_mem_drop k) z3).mono ok.len A,z4⟩
     .cases d
    .cases d
   | ml c l=>
    simp only [qos] at d;obtain ⟨l',z,rfl⟩:=zM.1 d;have he:l=l':=J _ zC;subst he;obtain ⟨_,F,D,e,ex,g,_,E⟩:=w.h.cells id _ (qfv z);refine ⟨F,λH A=>⟨D,e,ex,g,trivial,ql.mono ok.len A ⟨E.1,λj p k=>(E.2 j p k).plain ok2.plain g2 (λ_ _ _ h=>by rw [g3];exact h) ?_⟩⟩⟩;obtain ⟨x,_,hx⟩:=List.mem_flatMap.1 (List.mem_of_getElem? k);exact ok2.plain c x p hx
theorem q8a (ok:CfgOk X sz C) (ok2:CfgOk2 X C) {st0:StV K} {fr0:Fr} {H0:Heap} {f:Wd} (c:Rel X sz C base st0 fr0 H0 f) {ds:List Nat} {a:List RSlot} {l:List (NV K)} (m:qc5 (qu X tbl inv meas) st0 a=some l) (o:distinct (kh st0 a)=true)
  {G:List (NV K)->StV K->Prop} (q:qca (qu X tbl inv meas) st0 a (qdn st0 ds a) G):∃ b w1,G l b/\Rel X sz C base b fr0 H0 w1/\Le f w1/\b.n=st0.n:=by
 have g:∀ i,look (qdn st0 ds a).owns i=if i ∈ kh st0 a then none else look st0.owns i:=λi=>qma
 refine qx6 ok ok2 c c (.refl f) rfl (λ_ _=>rfl) m (λs D=>?_) (λid ps r=>?_) (λi s hi=>?_) (λi hi=>?_) o q
 .intro x t vs j i p E u w' v F H;obtain ⟨w,d,k⟩:=qpg c t;have:=q62 j d;subst this;exact (k.2 i p u).mono ok.len v
 .right;intro w' y;obtain ⟨e,z,k⟩:=c.h.cells id ps r;exact ⟨z,λA B=>k.mono ok.len (y.1.trans B) (by rw [c.h.n];exact (c.h.cl id e).1)⟩
 .simp_all
 .simp_all
abbrev qqo (X:Codecs K) (sz:Nat->Nat) (C:ZC K) (base:Heap) (w:Wd) (k:Ex->StV K->Prop) (ex:Ex) (fr':Fr) (H':Heap):Prop:=
 (∀ l,ex≠.goto l)/\∃ a w',k ex a/\Rel X sz C base a fr' H' w'/\Le w w'
theorem q8f {σ:Type} {step:σ->(σ->Prop)->Prop} {n:Nat} {s:σ} (h:q5t step False n s):∃ m,n=m+1/\step s λa=>q5t step False m a:=by
 cases n with
 | zero=>exact absurd h id
 | succ m=>exact ⟨m,rfl,h⟩
theorem zj6 {E:Env} {fn:FuncId} {round:Option Nat} {c:Code} {fr:Fr} {H:Heap} {Q:Ex->Fr->Heap->Prop}
  (h:Wp E fn round c fr H (qte (λfr' H'=>∃ (Inv:Nat->Fr->Heap->Prop) (m:Nat),Inv m fr' H'/\∀ m fr H,Inv m fr H->Wp E fn round c fr H (qte (λfr' H'=>∃ b,b<m/\Inv b fr' H') Q)) Q)):Wp E fn round (.loop c) fr H Q:=by
 obtain ⟨⟨e,g,H1⟩,d,f⟩:=h;cases e with
 | normal=>
  obtain ⟨Inv,a,hi,i⟩:=f;refine qij (λm fr' H'=>(m=a+1/\fr'=fr/\H'=H)∨(m<=a/\Inv m fr' H')) (m:=a+1) (.inl ⟨rfl,rfl,rfl⟩) ?_;rintro m fr' H' (⟨rfl,rfl,rfl⟩ | ⟨j,hi⟩)
  .exact ⟨_,d,a,Nat.lt_succ_self _,.inr ⟨zN _,hi⟩⟩
  .grind
 | _=>
  refine qij (λm fr' H'=>fr'=fr/\H'=H) (m:=0) ⟨rfl,rfl⟩ ?_;rintro m fr' H' ⟨rfl,rfl⟩;exact ⟨_,d,f⟩
def q2b (w:Wd) (rd round:Option Nat):Prop:=
 match rd,round with
 | none,none=>True
 | some id,some l=>id<w.n/\l=w.c id
 | _,_=>False
theorem q2b.mono {w w':Wd} {rd round:Option Nat} (h:q2b w rd round) (hle:Le w w'):q2b w' rd round:=by
 cases rd<;>cases round
 .trivial
 .exact h
 .exact h
 .obtain ⟨a,b⟩:=h;exact ⟨zL a hle.n,by rw [hle.c _ a];exact b⟩
theorem qvd (ok:CfgOk X sz C) (ok2:CfgOk2 X C) {rd round:Option Nat} {fn:Nat} {c:Code} {j:Nat} {l r:List Slot} {st:StV K} {fr:Fr} {H:Heap} {w:Wd} {k:Ex->StV K->Prop} {body:StV K->(Ex->StV K->Prop)->Prop}
  (o:∀ {st:StV K} {fr:Fr} {H:Heap} {w:Wd} {k:Ex->StV K->Prop},q2b w rd round->Rel X sz C base st fr H w->body st k->Wp C.E fn round c fr H (qqo X sz C base w k))
  (D:q2b w rd round) (R:Rel X sz C base st fr H w) (h:zem (qu X tbl inv meas) j l r (qdy c) st body k) :
  ∃ (Inv:Nat->Fr->Heap->Prop) (m:Nat),Inv m fr H/\∀ m fr' H',Inv m fr' H'->Wp C.E fn round c fr' H' (qte (λfr' H'=>∃ N,N<m/\Inv N fr' H') (qqo X sz C base w k)):=by
 obtain ⟨rs,S,F⟩:=qf h;obtain ⟨s,G,F⟩:=qf F;obtain ⟨a,_,B⟩:=qf F;cases I:distinct (kh st rs) with
 | false=>rw [I] at B;exact absurd B id
 | true=>
  rw [I] at B;obtain ⟨p,O⟩:=B;let Body:List (NV K)->StV K->Prop:=λe b=>inv j (e++a)->body b λex st2=>match ex with
    | .normal=>qz9 (qu X tbl inv meas) j a rs (some e) st (qdn st (qdy c) rs) st2
    | ex=>k ex st2
  refine ⟨λm fr' H'=>∃ e b w1,m=meas j (e++a)/\inv j (e++a)/\Body e b/\Rel X sz C base b fr' H' w1/\Le w w1/\fr'.n=fr.n/\∀ t,t ∉ qdy c->fr'.tmp t=fr.tmp t,meas j (s++a),?_,?_⟩
  .obtain ⟨b,w1,g1,g2,J,Z⟩:=q8a ok ok2 R G I O;exact ⟨s,b,w1,rfl,p,g1,g2,J,rfl,λ_ _=>rfl⟩
  .rintro m fr' H' ⟨e,b,w1,rfl,u,hB,T,d,v,x⟩;refine (Go.E3.Wp.frame (o (D.mono d) T (hB u))).mono λex U H2 V=>?_;obtain ⟨⟨L,st2,w2,P,Q,f⟩,g,i⟩:=V;cases ex with
   | normal=>
    obtain ⟨y,q,z,W⟩:=q0w ok ok2 R Q (d.trans f) (i.trans v) (λt A=>(g t A).trans (x t A)) P;obtain ⟨M,Y,g1,g2,J,_⟩:=W _ O;exact ⟨meas j (y++a),z e rfl,y,M,Y,rfl,q,g1,g2,J,i.trans v,λt A=>(g t A).trans (x t A)⟩
   | _=>exact ⟨L,st2,w2,P,Q,d.trans f⟩
theorem qzf {E:Env} {fn:FuncId} {round:Option Nat} {f:Operand} {params:Array Tmp} {a b:Code} {fr:Fr} {H H1:Heap} {Q:Ex->Fr->Heap->Prop} {g:Nat} {e i:List V} {mk:List Dfr} {d:Nat}
  (l:opd fr H f=some (.func (.func g) e i)) (m:qgc E g=true) (he:qj2 round H=some (mk,H1,d))
  (h:qaa E (.func g) (e++[.func (.yield H1.next) [] []]++i) (H1.new (.loop .ready none fr.tmps fr.n params.toList a b d)) λ_ j=>∃ ex c,qab j H1.next=some (ex,c)/\Q ex {fr with defers:=mk++fr.defers} c) :
  Wp E fn round (.rangeFunc f params a b) fr H Q:=by
 obtain ⟨v,j,⟨o,p⟩,ex,c,q,r⟩:=h;refine ⟨(ex,{fr with defers:=mk++fr.defers},c),⟨o,λk s=>?_⟩,r⟩;simp only [qh,he,zB,l,qdr,m,zO,p k s,q,zH]
theorem RelH.alike {H:Heap} {w:Wd} {st a:StV K} (R:RelH X sz C base st H w) (c:a.cells=st.cells) (d:a.owns=st.owns) (e:a.next=st.next) (f:a.known=st.known):RelH X sz C base a H w:=by
 obtain ⟨i,j,k,l,m,h⟩:=a;subst c d e f;exact ⟨R.wf,R.rob,R.g,R.nx,R.b,R.Mlt,R.n,R.one,R.keeps,R.cl,R.cinj,R.cells,R.owns,R.ownn,R.eta,R.einj,R.ce,R.known,R.globs⟩
theorem qu7 (ok:CfgOk X sz C) {H:Heap} {w:Wd} {st:StV K} (R:RelH X sz C base st H w) {id:Nat} {ct:ZT K} (o:O) (L:look st.cells id=some ct) :
  ∃ w',RelH X sz C base {st with cells:=qa1 st.cells id} (H.put (w.c id) o) w'/\Le w w':=by
 obtain ⟨q,I,v⟩:=R.cells id _ L;obtain ⟨M,x,j⟩:=R.cl id q;let H':=H.put (w.c id) o;have a:∀ nm,nm≠w.c id->H'.get nm=H.get nm:=λnm r=>zd r;have k:Le w {w with g:=H'.get}:=by
  refine ⟨⟨zN _,λnm cs e y z A ex h t=>⟨t,[],y,A,ex,?_⟩,λ_ _=>rfl,λ_ _=>rfl,λ_ _ h=>h,λ_ _ _ _ h f=>(by rw [h] at f;cases f;exact zN _),λi s hi J _=>⟨rfl,λnm r _=>?_⟩,rfl,λ_ _=>.rfl,zN _,rfl,λ_ _ h=>h,λ_ _=>rfl⟩,λm B=>?_,rfl⟩
  .rw [zJ];show H'.get nm=_;rw [a nm (by intro l;subst l;exact t I),<-R.g];exact h
  .show H'.get nm=w.g nm;rw [R.owns] at J;obtain ⟨_,_,D⟩:=R.eta i s nm J r;rw [a nm (by intro l;subst l;exact D I),R.g]
  .show H'.get m=_;rw [R.g] at B;rw [a m (by intro l;subst l;exact v.some.1 B)];exact B
 refine ⟨{w with g:=H'.get},?_,k⟩;refine ⟨λn r=>?_,R.rob,rfl,R.nx,R.b,R.Mlt,R.n,R.one,R.keeps.put j _,R.cl,R.cinj,λd p f=>?_,R.owns,R.ownn,R.eta,R.einj,R.ce,R.known,λgn p f=>?_⟩
 .have E:H.next<=n:=r
  rw [a n (by omega)];exact R.wf n E
 .simp only [qfh] at f;by_cases hi:d=id
  .simp_all
  .rw [zF hi] at f;obtain ⟨u,F,N⟩:=R.cells d p f;refine ⟨u,F,?_⟩;rw [a _ (by intro l;exact hi (R.cinj d id u q l))];exact N.mono ok.len k (by rw [R.n];exact (R.cl d u).1)
 .obtain ⟨P,G,Q,fl,S,ex',u,F,T⟩:=R.globs gn p f;exact ⟨P,G,Q,fl,S,ex',u,F,T.mono ok.len k⟩
theorem q3y (ok:CfgOk X sz C) (Z:qhd X sz C inl) {rd round:Option Nat} {fnE:Nat} {st:StV K} {fr:Fr} {H:Heap} {w:Wd} (J:q2b w rd round) (R:Rel X sz C base st fr H w) (D:inRound rd st=true)
  {f:Operand} {vf:V} {v:PV K} (ev:opd fr H f=some vf) (rv:Rep X sz w v vf) {r:LRec Int Bool (List UInt8) Prop (λc=>List (K c))} {params:Array Tmp} {a b:Code}
  (e1:r.tmps=st.tmps) (e2:r.n=st.n) (e3:r.params=params.toList) (e4:r.assign=a) (e5:r.body=b) (e6:r.mode=.ready) {k:Ex->StV K->Prop} (h:q81 (qu X tbl inv meas) C inl r v st k) :
  Wp C.E fnE round (.rangeFunc f params a b) fr H (qqo X sz C base w k):=by
 unfold q81 at h;split at h
 .rename_i g first cap
  cases rv with
  | @func f' a' c' va vc ha hc h1 h2=>
  obtain ⟨hb,h⟩:=cond_prop h;obtain ⟨mk,H1,d,w1,he,L,y,u⟩:∃ mk H1 d w1,qj2 round H=some (mk,H1,d)/\RelH X sz C base {st with next:=st.next+1} H1 w1/\Le w w1/\q19 base.next w1 (mk++fr.defers):=by
   cases round with
   | none=>
    obtain ⟨w1,L,e,hg,a0⟩:=qsr ok R.h;have u:=R.ds.mono e;refine ⟨[.mark H.next],H.new .dfr,H.next,w1,rfl,L,e,λx hx=>?_,?_,u.2.2⟩
    .rcases zD.1 hx with rfl | hx
     .refine ⟨H.next,rfl,R.h.keeps.next,?_,hg⟩;rw [e.fl,<-R.h.nx];exact R.ds.2.2
     .exact u.1 x hx
    .show (Dfr.mark H.next::fr.defers).Nodup;rw [List.nodup_cons];refine ⟨λF=>?_,R.ds.2.1⟩;obtain ⟨m,h3,_,_,h4⟩:=R.ds.1 _ F;cases h3;rw [a0] at h4;cases h4
   | some l=>
    cases rd with
    | none=>exact absurd J id
    | some id=>
     obtain ⟨a2,rfl⟩:=J;simp only [inRound] at D;split at D
     .rename_i r' hl;obtain ⟨_,_,g',_,q,_⟩:=R.h.cells id _ hl;obtain ⟨e,L⟩:=R.h.ext ok (m:=st.next+1) (nu':=w.nu) (Nat.le_succ _) (λ_ _=>rfl);refine ⟨[],H,g'.ld,_,?_,L,e,R.ds.mono e⟩;simp only [qj2,q];unfold qdo
      split
      .grind
      .rename_i M;exfalso;split at M<;>exact M _ _ _ _ _ _ _ _ rfl
     .cases D
  let gl:LG:=⟨fr.tmps,fr.n,params.toList,a,b,d⟩;obtain ⟨w2,R2,z,N,A⟩:=qee ok L (ct:=.lp r) (row:=.loop .ready none fr.tmps fr.n params.toList a b d) (lp':=λi=>if i=st.next+1 then some gl else w1.lp i)
   (λi hi=>zF (by have:i<st.next+1:=hi;omega)) (λw' hw hlp=>⟨gl,by rw [hlp];exact zT rfl,by rw [e6];rfl,by rw [e2];exact R.n.symm,e3,e4,e5,λi p U=>by
     rw [e1] at U;obtain ⟨x,W,q⟩:=R.f i p U;exact ⟨x,W,(q.mono ok.len y).mono ok.len hw⟩⟩)
  have j:=y.trans z;have ry:ql X sz w2 [.yield (st.next+1)] [.func (.yield H1.next) [] []]:=by
   have hy:=Rep.yield (X:=X) (sz:=sz) (w:=w2) (id:=st.next+1) A;rw [show w2.c (st.next+1)=H1.next from N] at hy;exact .cons hy .nil
  have a1:ql X sz w2 (first++[.yield (st.next+1)]++cap) (va++[.func (.yield H1.next) [] []]++vc):=
   ql.append (ql.append (ql.mono ok.len j (ps:=first) ⟨ha,h1⟩) ry) (ql.mono ok.len j (ps:=cap) ⟨hc,h2⟩)
  refine qzf ev hb he ((Z (.func g) _ _ _ h base _ w2 _ R2 a1).mono λ_ Y hA=>?_);obtain ⟨_,P,w3,t,t3,n3,Q,s,_⟩:=hA;unfold zaf at t;split at t
  .rename_i r3 S;obtain ⟨T,a3,g3,W,q,_⟩:=Q.cells _ _ S;have G:w3.c (st.next+1)=H1.next:=(s.c _ A).trans N
   have I:Y.ro<=H1.next:=by rw [Q.keeps.ro,<-G];exact zR Q.rob.1 (Q.cl _ T).2.2
   rw [G] at q;have fin:∀ (ex:Ex) (o:O),(∀ l,ex≠.goto l)->qab Y H1.next=some (ex,Y.put H1.next o)->k ex {P with cells:=qa1 P.cells (st.next+1),tmps:=st.tmps,n:=st.n}->
     ∃ ex H4,qab Y H1.next=some (ex,H4)/\qqo X sz C base w k ex {fr with defers:=mk++fr.defers} H4:=by
    intro ex o hg he t;obtain ⟨w4,R4,B⟩:=qu7 ok Q o S;rw [G] at R4;have e:Le w w4:=j.trans (s.trans B);exact ⟨ex,_,he,hg,_,w4,t,⟨R4.alike rfl rfl rfl rfl,λi p U=>by
     obtain ⟨x,W,q⟩:=R.f i p U;exact ⟨x,W,q.mono ok.len e⟩,R.n,u.mono (z.trans (s.trans B))⟩,e⟩
   split at t
   .rename_i F;rw [F] at q;exact fin .normal _ (by simp) (by simp only [qab,q,qdo,kq I,zB,qbo,zH];rfl) t
   .rename_i F;rw [F] at q;exact fin .ret _ (by simp) (by simp only [qab,q,qdo,kq I,zB,qbo,zH];rfl) t
   .rename_i i F;rw [F] at q;exact fin (.exit i) _ (by simp) (by simp only [qab,q,qdo,kq I,zB,qbo,zH];rfl) t
   .exact absurd t id
  .exact absurd t id
 .exact absurd h id
theorem zx (ok:CfgOk X sz C) (ok2:CfgOk2 X C) (tok:qcu X sz C tbl) (o:qhd X sz C inl) {rd round:Option Nat} {fn fnE:Nat}:∀ {c:Code} {p:Nat} {st:StV K} {fr:Fr} {H:Heap} {w:Wd} {k:Ex->StV K->Prop},
  q2b w rd round->Rel X sz C base st fr H w->jq (qu X tbl inv meas) C inl rd fn p c st k->Wp C.E fnE round c fr H (qqo X sz C base w k)
 | .skip,p,st,fr,H,w,k,l,R,h=>qej ⟨by simp,st,w,h,R,.refl w⟩
 | .label _,p,st,fr,H,w,k,l,R,h=>zgz ⟨by simp,st,w,h,R,.refl w⟩
 | .exit _,p,st,fr,H,w,k,l,R,h=>qtj ⟨by simp,st,w,h,R,.refl w⟩
 | .ret,p,st,fr,H,w,k,l,R,h=>qhw ⟨by simp,st,w,h,R,.refl w⟩
 | .goto _,p,st,fr,H,w,k,l,R,h=>absurd h id
 | .refuse _,p,st,fr,H,w,k,l,R,h=>absurd h id
 | .rangeFunc f a4 a b,p,st,fr,H,w,k,l,R,h=>by
  simp only [jq] at h;obtain ⟨a5,L⟩:=cond_prop h;obtain ⟨v,hv,h2⟩:=qf L;obtain ⟨vf,ev,rv⟩:=qo R hv;exact q3y ok o l R a5 ev rv rfl rfl rfl rfl rfl rfl h2
 | .cond c a b,p,st,fr,H,w,k,l,R,h=>by
  simp only [jq] at h;split at h
  .rename_i pc hc;obtain ⟨v,ev,rv⟩:=qo R hc;obtain ⟨t,rfl⟩:=q9l rv h;obtain ⟨u,L,hn,_,O⟩:=qw6 R.h rv h;have Q:=R.ztr ok hn O (.refl w);refine q4e ev ?_;cases t with
   | true=>exact zx ok ok2 tok o l Q L
   | false=>exact zx ok ok2 tok o l Q L
  .exact absurd h id
 | .block id c,p,st,fr,H,w,k,l,R,h=>by
  simp only [jq] at h;refine qah ((zx ok ok2 tok o l R h).mono λex fr' H' A=>?_);obtain ⟨G,q,w',z,I,y⟩:=A;cases ex with
  | exit S=>
   simp only at z;simp only [qm2];cases hb:Nat.beq S id with
   | true=>
    rw [hb] at z;simp only [zO,↓reduceIte] at z;have:=zE hb;subst this;exact qfb ⟨by simp,q,w',z,I,y⟩
   | false=>
    rw [hb] at z;simp only [zQ,Bool.false_eq_true,↓reduceIte] at z;have a6:¬ S=id:=by
     intro he;subst he;simp at hb
    exact qu4 a6 ⟨by simp,q,w',z,I,y⟩
  | _=>exact ⟨G,q,w',z,I,y⟩
 | .scope c,p,st,fr,H,w,k,l,R,h=>by
  simp only [jq] at h;refine zg0 ((zx ok ok2 tok o l R h).mono λex fr' H' A=>⟨A.1,A⟩)
 | .region id ops T,p,st,fr,H,w,k,l,R,h=>by
  simp only [jq] at h;cases T with
  | true=>
   refine q7a ?_;have m:Mid X sz C base H.next st.next 0 w [] [] st fr H w:=⟨R,.nil,zN _,zN _,λid _ hc=>(R.h.cl id hc).2.1,λd hd=>(by cases hd),λd hd=>(by cases hd),.refl w,_,_,R.h,rfl⟩
   obtain ⟨x,hx,e,q,w',a1,a2,a3⟩:=qmn (b:=Region.before ops) (i:=0) ok ok2 tok o m R.cm h;exact ⟨x,hx,by simp,q,w',a1,a2,a3⟩
  | false=>
   refine qcs ((qjz ok ok2 tok o R h).mono λex fr' H' A=>?_);obtain ⟨rfl,q,w',a1,a2,a3⟩:=A;exact ⟨by simp,q,w',a1,a2,a3⟩
 | .seq a b,p,st,fr,H,w,k,l,R,h=>by
  simp only [jq] at h;split at h
  .rename_i j B M D;obtain ⟨rs,ad,L⟩:=qf h;obtain ⟨ab,_,L⟩:=qf L;obtain ⟨ha,G⟩:=L;refine za ((Go.E3.Wp.frame (zx ok ok2 tok o l R ha)).mono λex fr' H' A=>?_);obtain ⟨⟨a7,q,w',z,I,y⟩,a8,a9⟩:=A;cases ex with
   | normal=>
    obtain ⟨ns,U,_,hh⟩:=q0w ok ok2 R I y a9 a8 z;obtain ⟨u,w1,g1,g2,g3,_⟩:=hh _ G;refine (zx ok ok2 tok o (l.mono g3) g2 (g1 U)).mono λex J H2 P=>?_;obtain ⟨V,F,W,Y,Z,q4⟩:=P;exact ⟨V,F,W,Y,Z,g3.trans q4⟩
   | _=>exact ⟨a7,q,w',z,I,y⟩
  .refine za ((zx ok ok2 tok o l R h).mono λex fr' H' A=>?_);obtain ⟨G,q,w',z,I,y⟩:=A;cases ex with
   | normal=>
    refine (zx ok ok2 tok o (l.mono y) I z).mono λex J H2 P=>?_;obtain ⟨V,F,W,Y,Z,q4⟩:=P;exact ⟨V,F,W,Y,Z,y.trans q4⟩
   | _=>exact ⟨G,q,w',z,I,y⟩
 | .loop c,p,st,fr,H,w,k,l,R,h=>by
  simp only [jq] at h;split at h
  .rename_i j B M D;obtain ⟨Inv,m,h0,hs⟩:=qvd ok ok2 (λl R h=>zx ok ok2 tok o l R h) l R h;exact qij Inv h0 hs
  .rename_i j B M D;refine zj6 ((zx ok ok2 tok o l R h).mono λex fr' H' A=>?_);obtain ⟨G,u,w1,z,O,r⟩:=A;cases ex with
   | normal=>
    obtain ⟨Inv,m,h0,hs⟩:=qvd ok ok2 (λl R h=>zx ok ok2 tok o l R h) (l.mono r) O z;refine ⟨Inv,m,h0,λm J H2 hi=>(hs m J H2 hi).mono λex ae H3 P=>?_⟩;cases ex with
    | normal=>exact P
    | _=>
     obtain ⟨V,F,W,Y,Z,q4⟩:=P;exact ⟨V,F,W,Y,Z,r.trans q4⟩
   | _=>exact ⟨G,u,w1,z,O,r⟩
  .rename_i n D;refine qij (λm fr' H'=>∃ u w1,q5t (λs g=>jq (qu X tbl inv meas) C inl rd fn (2 * p) c s λex u=>match ex with
    | .normal=>g u
    | ex=>k ex u) False m u/\Rel X sz C base u fr' H' w1/\Le w w1) (m:=n) ⟨st,w,h,R,.refl w⟩ ?_
   rintro m fr' H' ⟨u,w1,aa,O,r⟩;obtain ⟨m',rfl,a0⟩:=q8f aa;refine (zx ok ok2 tok o (l.mono r) O a0).mono λex J H2 A=>?_;obtain ⟨G,st2,w2,z,R2,N⟩:=A;cases ex with
   | normal=>exact ⟨m',Nat.lt_succ_self _,st2,w2,z,R2,r.trans N⟩
   | _=>exact ⟨G,st2,w2,z,R2,r.trans N⟩
  .exact absurd h id
end
end Go.E3
/- E3: FUNCTIONS against E2's: what the conditions of a function show. -/
namespace Go.E3
open Go Go.E2
variable {K:Nat->Type}
def qaf:List (PV K)->List (PV K)->List (Nat×Nat)
 | .list _ _ (some (i,_))::ps,.list _ _ (some (j,_))::rs=>(j,i)::qaf ps rs
 | _::ps,_::rs=>qaf ps rs
 | _,_=>[]
def RT:PV K->Prop
 | .sb id _ b a c=>id=0/\(a↔b=true)/\(c↔b=false)
 | .int _ l _=>l=none
 | .list _ _ (some (_,s))=>s=0
 | _=>True
section
variable {X:Codecs K} {sz:Nat->Nat} {C:ZC K} {base H:Heap} {st:StV K} {w:Wd}
variable {tbl:Tbl K} {inv:Nat->List (NV K)->Prop} {meas:Nat->List (NV K)->Nat} {inl:ZI K}
theorem qgh {fr:Fr} (R:RelH X sz C base st H w) (F:qmy X sz w st.tmps fr):∀ {rs:List ResultVar} {ps:List (PV K)},qgg (qu X tbl inv meas) C st rs=some ps->∃ vs,zv C.E fr H rs=some vs/\ql X sz w ps vs
 | [],ps,h=>by
  simp only [qgg,zS] at h;subst h;exact ⟨[],rfl,.nil⟩
 | .tmp t::rs,ps,h=>by
  simp only [qgg] at h;obtain ⟨p,b,c⟩:=zI.1 h;obtain ⟨j,d,rfl⟩:=zM.1 c;obtain ⟨v,e,f⟩:=F t p b;obtain ⟨vs,g,i⟩:=qgh R F d;exact ⟨v::vs,by simp only [zv,e,zB,g,zH],.cons f i⟩
 | .cell a t::rs,ps,h=>by
  simp only [qgg] at h;obtain ⟨ti,k,b⟩:=zI.1 h;obtain ⟨l,c,d⟩:=zI.1 b;obtain ⟨p,m,n⟩:=zI.1 d;obtain ⟨j,o,rfl⟩:=zM.1 n;obtain ⟨x,e,f⟩:=F a l c;obtain ⟨nm,gn,off,lim,rfl,_,q,_⟩:=qjb R f m;obtain ⟨u,r,s⟩:=q H rfl;obtain ⟨vs,g,i⟩:=qgh R F o;exact ⟨u::vs,by simp only [zv,k,e,r,zB,g,zH],.cons s i⟩
theorem q1a {ps:List (PV K)} {vs:List V} (r:ql X sz w ps vs):Rep X sz w (q3m ps) (oneOf vs):=by
 match ps,r with
 | [],r=>rw [r.z6];exact .undef
 | [p],r=>
  obtain ⟨v,a,rfl,b,c⟩:=r.zk;have:=c.z6;subst this;exact b
 | p::q::ps,r=>
  obtain ⟨v,a,rfl,b,c⟩:=r.zk;obtain ⟨u,d,rfl,e,f⟩:=c.zk;exact .tuple' (.cons b (.cons e f))
theorem qhn (ok:CfgOk X sz C) {base H:Heap}:∀ {ps:List (PV K)} {vs:List V} {st:StV K} {w:Wd} {k:List (PV K)->StV K->Prop},RelH X sz C base st H w->ql X sz w ps vs->qvz (qu X tbl inv meas) ps st k->
  ∃ o a w',k o a/\RelH X sz C base a H w'/\Le w w'/\ql X sz w' o vs
 | [],vs,st,w,k,R,r,h=>⟨[],st,w,h,R,.refl w,r⟩
 | p::ps,vs,st,w,k,R,r,h=>by
  obtain ⟨v,O,rfl,J,D⟩:=r.zk;by_cases q:∃ id c fx n,p=.mlist id c fx n
  .obtain ⟨id,c,fx,n,rfl⟩:=q;simp only [qvz] at h;obtain ⟨l,s,L,h⟩:=qf h;have L:n=(l.length:Int):=L;have s:=qfv s;cases J with
   | mlist hi h0 E=>
    obtain ⟨w1,M,b,P,Q,e⟩:=qr5 ok R s E;have t:n.toNat=l.length:=by omega
    cases fx with
    | false=>
     obtain ⟨o,a,w',u,x,f,y⟩:=qhn ok M (D.mono ok.len b) h;refine ⟨_,a,w',u,x,b.trans f,.cons ?_ y⟩;rw [t];exact (e none none (λk F=>by cases F) trivial).mono ok.len f
    | true=>
     have S:Bump {st with cells:=qa1 st.cells id} {st with cells:=qa1 st.cells id,owns:=(st.next,0)::st.owns,next:=st.next+1} st.next 0:=by
      have i:look st.owns st.next=none:=by
       cases s:look st.owns st.next with
       | none=>rfl
       | some g=>have:=R.ownn _ _ s;omega
      exact ⟨rfl,rfl,rfl,rfl,λj=>qaw,Nat.le_succ _,Nat.lt_succ_self _,λg m=>(by have m:look st.owns st.next=some g:=m;rw [i] at m;cases m),λ_=>zN _⟩
     obtain ⟨w2,T,d,U,et,G,_⟩:=qrc (named:=false) ok M S (by simp);have W:=(e none (some l.length) (λk F=>by cases F;exact zN _) trivial).mono ok.len d;have Y:qli w2 sz c (some (st.next,0)) (.slice (w.c id) 0 0 l.length (sz c) (some l.length)):=
      ⟨by rw [G];exact Nat.lt_succ_self _,λZ z=>(by rw [U] at z;cases z;exact zN _),λ_=>.inl rfl,λh=>by cases h⟩
     have I:Rep X sz w2 (.list c l (some (st.next,0))) (.slice (w.c id) 0 0 l.length (sz c) (some l.length)):=by
      cases W with
      | list m hf hM A hb E B hc _=>exact .list m hf hM A hb E B hc Y
     obtain ⟨o,a,w',u,x,f,y⟩:=qhn ok T ((D.mono ok.len b).mono ok.len d) h;refine ⟨_,a,w',u,x,(b.trans d).trans f,.cons ?_ y⟩;rw [t];exact I.mono ok.len f
  .have N:∀ id c fx n,p=.mlist id c fx n->False:=λid c fx n he=>q ⟨id,c,fx,n,he⟩;simp only [qvz] at h;obtain ⟨o,a,w',u,x,f,y⟩:=qhn ok R D h;exact ⟨_,a,w',u,x,f,.cons (J.mono ok.len f) y⟩
theorem qmi (ok:CfgOk X sz C) {base H:Heap}:∀ {ps:List (PV K)} {vs:List V} {st:StV K} {w:Wd} {k:List (PV K)->StV K->Prop},RelH X sz C base st H w->ql X sz w ps vs->q9a (qu X tbl inv meas) ps st k->
  ∃ e c w',k e c/\RelH X sz C base c H w'/\Le w w'/\ql X sz w' e vs
 | [],vs,st,w,k,R,r,h=>⟨[],st,w,h,R,.refl w,r⟩
 | p::ps,vs,st,w,k,R,r,h=>by
  obtain ⟨v,s,rfl,o,q⟩:=r.zk;by_cases d:∃ cs,p=.agg cs
  .obtain ⟨cs,rfl⟩:=d;simp only [q9a] at h;obtain ⟨us,rfl,t⟩:=o.qcw;obtain ⟨ds,f,w1,g,i,a,j⟩:=qhn ok R t h;obtain ⟨e,st2,w2,l,m,b,n⟩:=qmi ok i (q.mono ok.len a) g;exact ⟨_,st2,w2,l,m,a.trans b,.cons (.qqq (j.mono ok.len b)) n⟩
  .have x:∀ cs,p=.agg cs->False:=λcs u=>d ⟨cs,u⟩;simp only [q9a] at h;obtain ⟨ds,f,w1,g,i,a,j⟩:=qhn ok R (.cons o .nil) h;obtain ⟨e,st2,w2,l,m,b,n⟩:=qmi ok i (q.mono ok.len a) g;exact ⟨_,st2,w2,l,m,a.trans b,(j.mono ok.len b).append n⟩
theorem qqi (ok:CfgOk X sz C) {base H:Heap} {keep:Bool} {ps:List (PV K)} {vs:List V} {st:StV K} {w:Wd} {k:List (PV K)->StV K->Prop} (R:RelH X sz C base st H w) (r:ql X sz w ps vs) (h:qwp (qu X tbl inv meas) keep ps st k) :
  ∃ b a w',k b a/\RelH X sz C base a H w'/\Le w w'/\ql X sz w' b vs:=by
 cases keep with
 | true=>exact ⟨ps,st,w,h,R,.refl w,r⟩
 | false=>exact qmi ok R r h
theorem LeB.qgs (w:Wd) (x:Nat):LeB w {w with fl:=x}:=
 have h:=LeB.refl w
 ⟨h.n,h.mem,h.c,h.nu,h.o1,h.o2,h.o3,h.ce,h.cl,h.nx,h.b,h.Mu,h.lp⟩
theorem RelH.qgs (ok:CfgOk X sz C) (R:RelH X sz C base st H w) (x:Nat):RelH X sz C base st H {w with fl:=x}:=
 ⟨R.wf,R.rob,R.g,R.nx,R.b,R.Mlt,R.n,R.one,R.keeps,R.cl,R.cinj,λid ct h=>by
  obtain ⟨a,b,c⟩:=R.cells id ct h;exact ⟨a,b,c.qbb ok.len (LeB.qgs w x) (by rw [R.n];exact (R.cl id a).1)⟩,R.owns,R.ownn,R.eta,R.einj,R.ce,R.known,λgn ps h=>by
  obtain ⟨e,d,f,fl,i,ex',j,k,l⟩:=R.globs gn ps h;exact ⟨e,d,f,fl,i,ex',j,k,l.qbb ok.len (LeB.qgs w x)⟩⟩
theorem qhk (ok:CfgOk X sz C) {F:Nat}:∀ {ds:List Dfr} {H:Heap} {w:Wd},RelH X sz C base st H w->(∀ x ∈ ds,∃ m,x=.mark m/\base.next<=m/\F<=m/\w.g m=some .dfr)->ds.Nodup->
  ∃ c w2,jh ds H=some c/\RelH X sz C base st c w2/\LeB w w2/\w2.fl=w.fl/\∀ m,m<F->w2.g m=w.g m
 | [],H,w,R,_,_=>⟨H,w,rfl,R,.refl w,rfl,λ_ _=>rfl⟩
 | x::ds,H,w,R,J,f=>by
  obtain ⟨m,rfl,K,hF,t⟩:=J x zC;rw [List.nodup_cons] at f;let H1:=H.put m .gone;let w1:Wd:={w with g:=H1.get};have d:H.get m=some .dfr:=by rw [<-R.g];exact t
  have a:∀ nm,nm≠m->H1.get nm=H.get nm:=λnm f=>zd f;have N:m<H.next:=by
   by_cases h:m<H.next
   .exact h
   .rw [R.wf m (by omega)] at d;cases d
  have k:LeB w w1:=by
   refine ⟨zN _,λnm cs e u v y ex h z=>⟨z,[],u,y,ex,?_⟩,λ_ _=>rfl,λ_ _=>rfl,λ_ _ h=>h,λ_ _ _ _ h p=>(by rw [h] at p;cases p;exact zN _),λi s hi ho _=>⟨rfl,λnm f A=>?_⟩,rfl,λ_ _=>.rfl,zN _,rfl,λ_ _ h=>h,λ_ _=>rfl⟩
   .rw [zJ];show H1.get nm=_;rw [a nm (by intro l;subst l;rw [t] at h;cases h),<-R.g];exact h
   .show H1.get nm=w.g nm;rw [a nm (by intro l;subst l;exact A t),R.g]
  have O:RelH X sz C base st H1 w1:=by
   refine ⟨λn f=>?_,R.rob,rfl,R.nx,R.b,R.Mlt,R.n,R.one,R.keeps.put K _,R.cl,R.cinj,λq o p=>?_,R.owns,R.ownn,R.eta,R.einj,R.ce,R.known,λgn o p=>?_⟩
   .have B:H.next<=n:=f
    rw [a n (by omega)];exact R.wf n B
   .obtain ⟨r,D,E⟩:=R.cells q o p;refine ⟨r,D,?_⟩;rw [a _ (by intro l;rw [l] at E;exact E.some.1 d)];exact E.qbb ok.len k (by rw [R.n];exact (R.cl q r).1)
   .obtain ⟨P,G,Q,fl,S,ex',r,D,T⟩:=R.globs gn o p;exact ⟨P,G,Q,fl,S,ex',r,D,T.qbb ok.len k⟩
  obtain ⟨c,w2,U,V,W,Y,Z⟩:=qhk ok O (λx L=>by
   obtain ⟨j,M,h2,h3,h4⟩:=J x (zG _ L);refine ⟨j,M,h2,h3,?_⟩;show H1.get j=_;rw [a j (by intro l;subst l;subst M;exact f.1 L),<-R.g];exact h4) f.2
  refine ⟨c,w2,?_,V,k.trans W,Y,λj I=>?_⟩
  .simp only [jh,d,kq (show H.ro<=m by rw [R.keeps.ro];exact zR R.rob.1 K),zB];exact U
  .rw [Z j I];show H1.get j=w.g j;rw [a j (by omega),R.g]
theorem Le.leave {w w1 w2 d:Wd} (i:∀ n,w.nx<=n->w.g n=none) (e:Le {w with fl:=w.nx} w1) (j:LeB w1 w2) (hold:∀ m,m<w.nx->w2.g m=w1.g m) (f:Le w2 d):Le w {d with fl:=w.fl}:=by
 have h:=e.toLeB.trans (j.trans f.toLeB);refine ⟨⟨h.n,h.mem,h.c,h.nu,h.o1,h.o2,h.o3,h.ce,h.cl,h.nx,h.b,h.Mu,h.lp⟩,λm k=>?_,rfl⟩;have a:m<w.nx:=by
  by_cases a:m<w.nx
  .exact a
  .simp_all
 refine f.df m ?_;rw [hold m a];exact e.df m k
theorem qc9 {n:Nat}:∀ {ps:List Tmp} {args:List (PV K)} {vs:List V} {t c:Tree (PV K)} {lt:Tree V},ql X sz w args vs->(∀ i p,t.get i=some p->∃ v,lt.get i=some v/\Rep X sz w p v)->qfl n ps args t=some c->
  ∃ b,qb1 n ps vs lt=some b/\∀ i p,c.get i=some p->∃ v,b.get i=some v/\Rep X sz w p v
 | [],[],vs,t,c,lt,r,d,h=>by
  have:=r.z6;subst this;simp only [qfl,zS] at h;subst h;exact ⟨lt,rfl,d⟩
 | [],_::_,vs,t,c,lt,r,d,h=>by simp [qfl] at h
 | _::_,[],vs,t,c,lt,r,d,h=>by simp [qfl] at h
 | p::ps,a::args,vs,t,c,lt,r,d,h=>by
  obtain ⟨v,g,rfl,j,k⟩:=r.zk;simp only [qfl] at h;rcases zz h with ⟨_,f⟩ | ⟨l,f⟩
  .cases f
  .obtain ⟨b,m,o⟩:=qc9 (lt:=lt.set p v) k (λi q e=>by
    rw [Tree.zn] at e ⊢;by_cases hi:i=p
    .rw [zT hi] at e ⊢;cases e;exact ⟨v,rfl,j⟩
    .rw [zF hi] at e ⊢;exact d i q e) f
   refine ⟨b,?_,o⟩;simp only [qb1,l,zO,↓reduceIte];exact m
theorem qm3 {E:Env} {l:Nat} {args:List V} {H:Heap} {Q:V->Heap->Prop} {st:LoopState} {p:Option Code} {lt t:Tree V} {ln f:Nat} {c:List Tmp} {d e:Code} (i:H.get l=some (.loop st p lt ln c d e f)) (j:qb1 ln c args lt=some t)
  (h:Wp E 0 (some l) d {tmps:=t,n:=ln,defers:=[]} H λex fr H1=>ex=.normal/\∃ b,qll H1 l=some b/\Wp E 0 (some l) e fr b λex' fr' m=>∃ v a,qgi l (ex',fr',m)=some (.ret v,a)/\Q v a):qaa E (.round l) args H Q:=by
 obtain ⟨⟨ex,fr,H1⟩,⟨o,q⟩,r,b,s,⟨x,⟨u,w⟩,v,a,y,z⟩⟩:=h;subst r;refine ⟨v,a,⟨max o u+1,λk A=>?_⟩,z⟩;obtain ⟨k,rfl⟩:∃ g,k=g+1:=⟨k-1,by omega⟩;simp only [ja,i,j,zB,q k (by omega)];rw [s];simp only [zB];rw [w k (by omega)];exact y
theorem qz4 (ok:CfgOk X sz C) (ok2:CfgOk2 X C) (tok:qcu X sz C tbl) (N:qhd X sz C inl) {id:Nat} {args:List (PV K)} {st:StV K} {k:PV K->StV K->Prop} (h:q4g (qu X tbl inv meas) C inl id args st k) {base H:Heap} {w:Wd} {vs:List V}
  (R:RelH X sz C base st H w) (ra:ql X sz w args vs):qaa C.E (.round (w.c id)) vs H λv H'=>∃ p d w',k p d/\d.tmps=st.tmps/\d.n=st.n/\RelH X sz C base d H' w'/\Le w w'/\Rep X sz w' p v:=by
 unfold q4g at h;split at h
 .rename_i r hl;split at h
  .rename_i hm;obtain ⟨t,ht,h1⟩:=qf h;obtain ⟨a4,hM,g,p1,p2,p3,p4,p5,p6,p7⟩:=R.cells id _ hl;obtain ⟨a5,a6,a7⟩:=R.cl id a4;have e:id<w.n:=by rw [R.n];exact a5
   rw [hm] at p2;let w0:Wd:={w with fl:=w.nx};have R0:RelH X sz C base st H w0:=R.qgs ok w.nx;have a8:ql X sz w0 args vs:=ra.qbb ok.len (LeB.qgs w w.nx);rw [p3,p4] at ht;obtain ⟨O,e1,e2⟩:=qc9 (lt:=g.lt) a8 (λi p I=>by
    obtain ⟨v,a,b⟩:=p7 i p I;exact ⟨v,a,b.qbb ok.len (LeB.qgs w w.nx)⟩) ht
   have F0:Rel X sz C base {st with tmps:=t,n:=r.n} {tmps:=O,n:=g.ln,defers:=[]} H w0:=⟨R0.alike rfl rfl rfl rfl,e2,p3.symm,.nil (zN _)⟩;have P:q2b w0 (some id) (some (w.c id)):=⟨e,rfl⟩;refine qm3 (l:=w.c id) (t:=O) (by rw [p2];rfl) e1 ?_;rw [<-p5];refine (zx (fnE:=0) ok ok2 tok N P F0 h1).mono λex a9 H1 hA=>?_;obtain ⟨_,Q,w1,B,D,q⟩:=hA;cases ex with
   | normal=>
    refine ⟨rfl,?_⟩;simp only at B;split at B
    .rename_i r1 S;split at B
     .rename_i aa;obtain ⟨T,af,g1,q1,q2,_⟩:=D.h.cells id _ S;have J:w1.c id=w.c id:=q.c id e;have ab:g1=g:=by
       have:w1.lp id=w.lp id:=q.lp id e;rw [this,p1] at q1;exact (Option.some.inj q1).symm
      subst ab;rw [J,aa] at q2;have U:H1.ro<=w.c id:=by rw [D.h.keeps.ro,<-J];exact zR D.h.rob.1 (D.h.cl _ T).2.2
      have W:∀ i p,r.tmps.get i=some p->∃ v,g1.lt.get i=some v/\Rep X sz w1 p v:=λi p I=>by
       obtain ⟨v,a,b⟩:=p7 i p I;exact ⟨v,a,(b.qbb ok.len (LeB.qgs w w.nx)).mono ok.len q⟩
      obtain ⟨w2,R2,s⟩:=qjh ok D.h (ct':=.lp {r with mode:=.busy}) (o:=qdo g1 .busy) S ⟨g1,q1,rfl,p3,p4,p5,p6,W⟩;rw [J] at R2;have y:=q.trans s;refine ⟨H1.put (w.c id) (qdo g1 .busy),?_,?_⟩
      .simp only [qll,q2,qdo];exact kq U
      have F2:Rel X sz C base {Q with cells:=qez Q.cells id (.lp {r with mode:=.busy})} a9 (H1.put (w.c id) (qdo g1 .busy)) w2:=⟨R2,λi p I=>by
       obtain ⟨x,a,b⟩:=D.f i p I;exact ⟨x,a,b.mono ok.len s⟩,D.n,D.ds.mono s⟩
      rw [<-p6];refine (zx (fnE:=0) ok ok2 tok N (P.mono y) F2 B).mono λex Y M hB=>?_;obtain ⟨_,Z,w3,u,F3,F⟩:=hB;split at u
      .rename_i r3 a0;obtain ⟨a1,ag,z,u1,u2,_⟩:=F3.h.cells id _ a0;have m:=y.trans F;have L:w3.c id=w.c id:=m.c id e;have ad:z=g1:=by
        have:w3.lp id=w.lp id:=m.lp id e;rw [this,p1] at u1;exact (Option.some.inj u1).symm
       subst ad;rw [L] at u2;have G:M.ro<=w.c id:=by rw [F3.h.keeps.ro,<-L];exact zR F3.h.rob.1 (F3.h.cl _ a1).2.2
       have ae:∀ i p,r.tmps.get i=some p->∃ v,z.lt.get i=some v/\Rep X sz w3 p v:=λi p I=>by
        obtain ⟨v,a,b⟩:=W i p I;exact ⟨v,a,(b.mono ok.len s).mono ok.len F⟩
       have A:∀ (j:Option Code),qeb M (w.c id) j=some (.ret (.bool j.isNone),M.put (w.c id) (.loop (if j.isNone then .ready else .done) j z.lt z.ln z.lp z.la z.lb z.ld)):=by
        intro j;simp only [qeb,u2];cases r3.mode with
        | done x=>cases x<;>simp only [qdo,kq G,zH]
        | _=>simp only [qdo,kq G,zH]
       have fin:∀ (md:LMode) (b:Bool) (ex:Ex),qgi (w.c id) (ex,Y,M)=some (.ret (.bool b),M.put (w.c id) (qdo z md))->k (.lit b) {Z with cells:=qez Z.cells id (.lp {r with mode:=md}),tmps:=st.tmps,n:=st.n}->
         ∃ v H4,qgi (w.c id) (ex,Y,M)=some (.ret v,H4)/\∃ p d w',k p d/\d.tmps=st.tmps/\d.n=st.n/\RelH X sz C base d H4 w'/\Le w w'/\Rep X sz w' p v:=by
        intro md b ex he B;obtain ⟨w4,R4,a2⟩:=qjh ok F3.h (ct':=.lp {r with mode:=md}) (o:=qdo z md) a0 ⟨z,u1,rfl,p3,p4,p5,p6,ae⟩;rw [L] at R4;have a3:Le w {w4 with fl:=w.fl}:=Le.leave (λn hn=>by rw [R.g];exact R.wf n (by rw [<-R.nx];exact hn)) (m.trans a2) (.refl w4) (λ_ _=>rfl) (.refl w4);exact ⟨_,_,he,_,_,{w4 with fl:=w.fl},B,rfl,rfl,(R4.qgs ok w.fl).alike rfl rfl rfl rfl,a3,.lit⟩
       cases ex with
       | normal=>exact fin .ready true .normal (A none) u
       | ret=>exact fin (.done none) false .ret (A (some .ret)) u
       | exit i=>exact fin (.done (some i)) false (.exit i) (A (some (.exit i))) u
       | _=>exact (show False from u).elim
      .exact (show False from u).elim
     .exact (show False from B).elim
    .exact (show False from B).elim
   | _=>exact (show False from B).elim
  .exact (show False from h).elim
 .exact (show False from h).elim
theorem qnt {α:Type} {p:Nat->Bool}:∀ {l:List (Nat×α)} {n:Nat} {a:α},look (l.filter λx=>p x.1) n=some a->look l n=some a
 | [],_,_,h=>by cases h
 | (i,b)::l,n,a,h=>by
  rw [List.filter_cons] at h;by_cases d:i=n
  .subst d;cases c:p i with
   | true=>simp only [c,if_true,look,Nat.beq_refl,zO,↓reduceIte] at h ⊢;exact h
   | false=>
    exfalso;simp only [c,Bool.false_eq_true,if_false] at h;have e:=qco h;rw [List.mem_filter] at e;have:=e.2;rw [c] at this;cases this
  .simp only [look,zF d];cases c:p i with
   | true=>simp only [c,if_true,look,zF d] at h;exact qnt h
   | false=>simp only [c,Bool.false_eq_true,if_false] at h;exact qnt h
theorem q5p {lo:Nat} {vs:List (PV K)} {cells:List (Nat×ZT K)} {id:Nat} {ct:ZT K} (h:look (gcC lo vs cells) id=some ct):look cells id=some ct:=by
 unfold gcC at h;split at h
 .exact h
 .exact qnt (p:=λi=>!Nat.ble lo i || (q75 lo cells 3 ((qs1 vs++cells.flatMap λx=>if Nat.ble lo x.1 then [] else x.2.refs).filter (Nat.ble lo))).any (Nat.beq i)) h
theorem RelH.zeb (R:RelH X sz C base st H w) {cs:List (Nat×ZT K)} (h:∀ {id ct},look cs id=some ct->look st.cells id=some ct):RelH X sz C base {st with cells:=cs} H w:=
 ⟨R.wf,R.rob,R.g,R.nx,R.b,R.Mlt,R.n,R.one,R.keeps,R.cl,R.cinj,λid ct a=>R.cells id ct (h a),R.owns,R.ownn,R.eta,R.einj,R.ce,R.known,R.globs⟩
theorem qy7 (ok:CfgOk X sz C) (ok2:CfgOk2 X C) (tok:qcu X sz C tbl) {f:Nat} {args:List (PV K)} {st:StV K} {k:PV K->StV K->Prop} (h:q64 (qu X tbl inv meas) f args st k) {base H:Heap} {w:Wd} {vs:List V}
  (R:RelH X sz C base st H w) (t:ql X sz w args vs):qaa C.E (.func f) vs H λv H'=>∃ p b w',k p b/\b.tmps=st.tmps/\b.n=st.n/\RelH X sz C base b H' w'/\Le w w'/\Rep X sz w' p v:=by
 obtain ⟨G,u,w1,h,c,l,x⟩:=qmi ok R t h;split at h
 .rename_i y r m;cases s:distinct (qbs r.flat) with
  | false=>rw [s] at h;exact absurd h id
  | true=>
   rw [s] at h;obtain ⟨e,z⟩:=h;have o:H.ro<=H.next:=by rw [c.keeps.ro];exact zR c.rob.1 c.keeps.next
   have A:({w1 with g:=H.get}:Wd)=w1:=by rw [<-c.g]
   obtain ⟨i,d⟩:=qt5 ok2 tok c (H1:=H) (.same c (λ_=>rfl) rfl rfl o) (by rw [A];exact x) m e;refine d.mono λv H' B=>?_;obtain ⟨w',a⟩:=B;obtain ⟨q,I,L,D,j,F,_⟩:=qix ok ok2 c i (H1:=H) rfl a (J:=H') a.keeps.old (λ_ _ h=>h) (λ_ _=>rfl) rfl a.keeps.ro a.keeps.qp;exact ⟨_,_,q,z,rfl,rfl,D.alike rfl rfl rfl rfl,l.trans j,F⟩
 .exact absurd h id
theorem qtm (ok:CfgOk X sz C) (ok2:CfgOk2 X C) (tok:qcu X sz C tbl) (Y:qt C) (D:qhd X sz C inl) {f:Nat} {args:List (PV K)} {st:StV K} {k:PV K->StV K->Prop} (h:qzg (qu X tbl inv meas) C inl f args st k) {base H:Heap} {w:Wd} {vs:List V}
  (R:RelH X sz C base st H w) (A:ql X sz w args vs):qaa C.E (.func f) vs H λv H'=>∃ p a w',k p a/\a.tmps=st.tmps/\a.n=st.n/\RelH X sz C base a H' w'/\Le w w'/\Rep X sz w' p v:=by
 unfold qzg at h;cases b:C.ans f with
 | true=>rw [b] at h;exact absurd h id
 | false=>
  rw [b] at h;have T:=Y.1 f b;cases e:((qu X tbl inv meas).fn f).isSome&&args.any zsv with
  | true=>
   rw [e] at h;exact qy7 ok ok2 tok h R A
  | false=>
  rw [e] at h;simp only [zQ,Bool.false_eq_true,↓reduceIte] at h;split at h
  .rename_i fi j;split at h
   .rename_i c G;have I:ql X sz {w with fl:=w.nx} args vs:=A.qbb ok.len (LeB.qgs w w.nx);have Z:Rel X sz C base {st with tmps:=Tree.ofList args,n:=max args.length fi.ntmps} {tmps:=qbm vs,n:=max vs.length fi.ntmps,defers:=[]} H {w with fl:=w.nx}:=by
     refine ⟨(R.qgs ok w.nx).alike rfl rfl rfl rfl,λi p J=>?_,by rw [A.1],.nil (zN _)⟩;have l:(Tree.ofList args).get i=some p:=J;rw [Tree.qi3] at l;obtain ⟨v,L,M⟩:=I.get l;exact ⟨v,zp L,M⟩
    refine qb3 T j G ((zx (rd:=none) (round:=none) ok ok2 tok D trivial Z h).mono λex fr' H' hA=>?_);obtain ⟨_,o,w1,N,B,q⟩:=hA;have r:onS False (qgg (qu X tbl inv meas) C o fi.results) (λvs=>qwp (qu X tbl inv meas) (C.keepM f) vs o λvs st2=>k (q3m vs) {st2 with tmps:=st.tmps,n:=st.n,cells:=gcC st.next vs st2.cells})->∃ d,jh fr'.defers H'=some d/\∃ vs,zv C.E fr' d fi.results=some vs/\∃ p a w',k p a/\a.tmps=st.tmps/\a.n=st.n/\RelH X sz C base a d w'/\Le w w'/\Rep X sz w' p (oneOf vs):=by
     intro s;obtain ⟨qs,O,s⟩:=qf s;obtain ⟨d,w2,P,U,hB,a0,t⟩:=qhk ok B.h (F:=w.nx) (λx hx=>by
      obtain ⟨m,a1,a2,W,a4⟩:=B.ds.1 x hx;exact ⟨m,a1,a2,by rw [q.fl] at W;exact W,a4⟩) B.ds.2.1
     obtain ⟨us,e1,e2⟩:=qgh (fr:=fr') U (λi p J=>by
      obtain ⟨v,L,M⟩:=B.f i p J;exact ⟨v,L,M.qbb ok.len hB⟩) O
     obtain ⟨Q,st2,S,s,R4,u,e3⟩:=qqi ok U e2 s;have y:Le w {S with fl:=w.fl}:=Le.leave (λn hn=>by rw [R.g];exact R.wf n (by rw [<-R.nx];exact hn)) q hB t u;exact ⟨d,P,us,e1,_,_,{S with fl:=w.fl},s,rfl,rfl,((R4.qgs ok w.fl).zeb (cs:=gcC st.next Q st2.cells) q5p).alike rfl rfl rfl rfl,y,q1a (e3.qbb ok.len (LeB.qgs S w.fl))⟩
    cases ex with
    | normal=>exact ⟨.inl rfl,r N⟩
    | ret=>exact ⟨.inr rfl,r N⟩
    | _=>exact absurd N id
   .rename_i G;split at h
    .rename_i x z;obtain ⟨v,a5,rfl,r1,r2⟩:=A.zk;have:=r2.z6;subst this;exact zb0 T j G (v:=v) (by simp only [z,zd8]) ⟨x,st,w,h,rfl,rfl,R,.refl w,r1⟩
    .exact absurd h id
  .exact absurd h id
theorem qlh (ok:CfgOk X sz C) (ok2:CfgOk2 X C) (tok:qcu X sz C tbl) (a:qt C):∀ n,qhd X sz C (qv2 (qu X tbl inv meas) C n)
 | 0=>λg args st k h=>absurd h id
 | n+1=>λt args st k h base H w vs R b=>match t,h with
  | .func f,h=>qtm ok ok2 tok a (qlh ok ok2 tok a n) h R b
  | .round id,h=>qz4 ok ok2 tok (qlh ok ok2 tok a n) h R b
theorem qie:∀ {ps rs:List (PV K)} {e:List Prop},qmb (qu X tbl inv meas) st ps rs=some e->∀ j i,(j,i) ∈ qaf ps rs->∃ s,look st.owns i=some s
 | [],rs,e,h,j,i,d=>by cases rs<;>simp [qaf] at d
 | _::_,[],e,h,j,i,d=>by simp [qmb] at h
 | p::ps,r::rs,e,h,j,i,d=>by
  simp only [qmb] at h;obtain ⟨x,m,n⟩:=zI.1 h;obtain ⟨y,q,_⟩:=zM.1 n;have f:=qie q j i;cases p with
  | list c l o=>
   cases o with
   | none=>cases r<;>exact f d
   | some a=>
    obtain ⟨i',v⟩:=a;cases r with
    | list w z t=>
     cases t with
     | none=>exact f d
     | some b=>
      obtain ⟨A,B⟩:=b;simp only [qaf,zD] at d;rcases d with d | d
      .cases d;simp only [meets,Option.isSome_some,Bool.true_and] at m;rcases zz m with ⟨g,_⟩ | ⟨_,g⟩
       .simp only [Bool.not_eq_false',qd6] at g;split at g
        .rename_i u k;exact ⟨u,k⟩
        .cases g
       .cases g
      .exact f d
    | _=>exact f d
  | _=>cases r<;>exact f d
theorem qsy:∀ {ps rs:List (PV K)},(qaf ps rs).map (·.2)=qjf ps rs
 | [],rs=>by cases rs<;>simp [qaf,qjf]
 | p::ps,[]=>by cases p<;>simp [qaf,qjf]
 | p::ps,r::rs=>by
  have d:=qsy (ps:=ps) (rs:=rs);cases p with
  | list c l o=>
   cases o with
   | none=>cases r<;>simp only [qaf,qjf,d]
   | some a=>
    cases r with
    | list f g e=>
     cases e with
     | none=>simp only [qaf,qjf,d]
     | some b=>simp only [qaf,qjf,List.map_cons,d]
    | _=>simp only [qaf,qjf,d]
  | _=>cases r<;>simp only [qaf,qjf,d]
theorem qsx:∀ {ps rs:List (PV K)},((qaf ps rs).map (·.1)).Sublist (qbs rs)
 | [],rs=>by cases rs<;>simp [qaf]
 | p::ps,[]=>by cases p<;>simp [qaf]
 | p::ps,r::rs=>by
  have d:=qsx (ps:=ps) (rs:=rs);cases r with
  | list f g e=>
   cases e with
   | none=>cases p with
    | list c l o=>cases o<;>exact d
    | _=>exact d
   | some b=>
    cases p with
    | list c l o=>
     cases o with
     | none=>exact d.trans (List.sublist_cons_self _ _)
     | some a=>exact d.cons_cons _
    | _=>exact d.trans (List.sublist_cons_self _ _)
  | _=>cases p with
   | list c l o=>cases o<;>exact d
   | _=>exact d
theorem qvj:∀ {l:List (Nat×Nat)} {j i:Nat},(l.map (·.1)).Nodup->(j,i) ∈ l->look l j=some i
 | [],j,i,_,h=>by cases h
 | (a,b)::l,j,i,c,h=>by
  simp only [List.map_cons,List.nodup_cons] at c;simp only [look,cond_eq_ite,Nat.beq_eq];rcases zD.1 h with h | h
  .cases h;rw [zT rfl]
  .rw [zF]
   .exact qvj c.2 h
   .intro d;subst d;exact c.1 (List.mem_map.2 ⟨_,h,rfl⟩)
theorem qsi (ok2:CfgOk2 X C) (R:RelH X sz C base st H w) {w':Wd} (hg:w'.g=w.g) (O:∀ nm x,w.g nm=some x->¬ w.M nm->¬ w'.M nm) (P:w'.ce=w.ce) (ho:∀ i,w'.owns i=some 0):∀ {ps rs:List (PV K)} {A:List Prop} {vs:List V},
  qmb (qu X tbl inv meas) st ps rs=some A->(∀ q ∈ A,q)->ql X sz w ps vs->(∀ r ∈ rs,RT r)->(∀ j i,(j,i) ∈ qaf ps rs->w'.eta j=w.eta i)->(∀ j ∈ qbs rs,j<w'.n)->ql X sz w' rs vs
 | [],[],A,vs,h,Q,r,S,T,U=>by rw [r.z6];exact .nil
 | [],_::_,A,vs,h,Q,r,S,T,U=>by simp [qmb] at h
 | _::_,[],A,vs,h,Q,r,S,T,U=>by simp [qmb] at h
 | p::ps,q::rs,A,vs,h,Q,r,S,T,U=>by
  obtain ⟨v,aq,rfl,I,r2⟩:=r.zk;simp only [qmb] at h;obtain ⟨x,f,h2⟩:=zI.1 h;obtain ⟨y,h3,rfl⟩:=zM.1 h2;have J:∀ j i,(j,i) ∈ qaf ps rs->(j,i) ∈ qaf (p::ps) (q::rs):=by
   intro j i t;cases p with
   | list c l o=>
    cases o with
    | none=>cases q<;>exact t
    | some a=>
     cases q with
     | list c' B o'=>
      cases o' with
      | none=>exact t
      | some b=>exact zG _ t
     | _=>exact t
   | _=>cases q<;>exact t
  have L:∀ j ∈ qbs rs,j ∈ qbs (q::rs):=by
   intro j t;cases q with
   | list c' B o'=>
    cases o' with
    | none=>exact t
    | some b=>exact zG _ t
   | _=>exact t
  have ih:=qsi ok2 R hg O P ho h3 (λq a4=>Q q (List.mem_append_right _ a4)) r2 (λr hr=>S r (zG _ hr)) (λj i t=>T j i (J j i t)) (λj hj=>U j (L j hj));refine .cons ?_ ih;have W:∀ a ∈ x,a:=λa ha=>Q a (List.mem_append_left _ ha);have hT:=S q zC;cases q with
  | int k' B b=>
   cases p with
   | int k l a=>
    simp only [meets] at f;split at f
    .rename_i hk;subst hk;cases f;have:a=b:=W _ zC;subst this;cases I;have:B=none:=hT;subst this;exact .int λm t=>by cases t
    .cases f
   | _=>simp [meets] at f
  | sb id neg b pt pf=>
   obtain ⟨t1,t2,t3⟩:id=0/\(pt↔b=true)/\(pf↔b=false):=hT;have:v=.bool b:=by
    cases p with
    | lit a=>
     simp only [meets,zS] at f;subst f;have:a=b:=W _ zC;subst this;cases I;rfl
    | sb ar aj a au av=>
     simp only [meets,zS] at f;subst f;have:a=b:=W _ zC;subst this;cases I;rfl
    | _=>simp [meets] at f
   subst this;exact .sb t2 t3 λh0=>absurd t1 h0
  | str b=>
   cases p with
   | str a=>
    simp only [meets,zS] at f;subst f;have:a=b:=W _ zC;subst this;cases I;exact .str
   | _=>simp [meets] at f
  | list c l o=>
   have t:∃ B,asL (qu X tbl inv meas) c p=some B/\B=l/\(o.isSome=true->qd6 st p=true):=by
    have e:meets (qu X tbl inv meas) st p (.list c l o)=(if o.isSome&&!qd6 st p then none else (asL (qu X tbl inv meas) c p).map λB=>[(qu X tbl inv meas).eqL c B l]):=by
     cases p<;>rfl
    rw [e] at f;rcases zz f with ⟨hb,h4⟩ | ⟨_,hb⟩
    .obtain ⟨B,D,rfl⟩:=zM.1 h4;refine ⟨B,D,W _ zC,λhs=>?_⟩;rw [hs] at hb;simpa using hb
    .cases hb
   obtain ⟨B,D,rfl,d⟩:=t;have rl:=qfp I D;have rp:=rl.plain ok2.plain hg O .list;cases o with
   | none=>exact rp
   | some b=>
    obtain ⟨j,s⟩:=b;have a5:s=0:=hT;subst a5;have d:=d rfl;have hj:j<w'.n:=U j (by simp [qbs]);have G:∀ Y,w'.owns j=some Y->0<=Y:=λ_ _=>Nat.zero_le _;rcases jv rp with ⟨rfl,rfl⟩ | ⟨nm,gn,off,z,cap,cs,e,aw,a6,ax,ex,rfl,a7,hf,a8,Z,hz,a0,N,_⟩
    .exact .nlist ⟨hj,G,λ_=>trivial,λ_=>trivial⟩
    .refine .list a7 hf a8 rfl Z hz a0 N ⟨hj,G,λ_=>?_,λh=>by cases h⟩;cases p with
     | list c2 l2 o2=>
      cases o2 with
      | none=>simp [qd6] at d
      | some a=>
       obtain ⟨i,s2⟩:=a;have a9:c2=c:=by
        unfold asL at D;simp only at D;split at D
        .assumption
        .cases D
       subst a9;have aa:look st.owns i=some s2:=by
        simp only [qd6] at d;split at d
        .rename_i s3 ab;rw [ab,zE d]
        .cases d
       have ay:l2.length=B.length:=by
        unfold asL at D;simp only at D;split at D
        .cases D;rfl
        .cases D
       have u:q2a w sz i c2 (.slice nm gn off B.length z cap):=by
        rcases jv I with ⟨_,hh⟩ | ⟨az,aA,ak,z3,al,aB,e3,an,a3,ao,aC,hh,_,_,_,_,_,_,_,ad⟩
        .cases hh
        .rw [hh];exact ad.2.2.1 (by rw [R.owns];exact aa)
       have a1:w'.eta j=w.eta i:=T j i (by simp [qaf]);simp only [q2a] at u ⊢;rcases u with hc | ⟨ae,af,ag,e4,E,a2,ah,ai,F⟩
       .exact .inl hc
       .exact .inr ⟨ae,by rw [a1];exact af,ag,e4,E,a2,ah,by rw [hg];exact ai,F.1,F.2.1,by rw [P];exact F.2.2.1,F.2.2.2⟩
     | nils=>cases I
     | _=>simp [qd6] at d
  | _=>cases p<;>simp [meets] at f
theorem zb6 {ps:List (PV K)} {vs:List V} (r:ql X sz w ps vs):ql X sz w (ps.flatMap P.cellsOf) (vs.flatMap V.cells):=by
 induction ps generalizing vs with
 | nil=>rw [r.z6];exact .nil
 | cons p ps a=>
  obtain ⟨v,b,rfl,c,d⟩:=r.zk;exact c.cells.append (a d)
theorem qrl {w':Wd} {p r:PV K} {v:V} {cs:List (PV K)} {us:List V} (c:qlj p r=true) (j:Rep X sz w p v) (h:ql X sz w' (r.cellsOf++cs) (v.cells++us)):Rep X sz w' r v/\ql X sz w' cs us:=by
 have sp:∀ {a:List (PV K)} {b:List V},a.length=b.length->ql X sz w' (a++cs) (b++us)->ql X sz w' a b/\ql X sz w' cs us:=by
  intro a b d k;have f:=k.take a.length;have g:=k.drop a.length;rw [List.take_left' rfl] at f;rw [List.drop_left' rfl] at g;rw [d,List.take_left' rfl] at f;rw [d,List.drop_left' rfl] at g;exact ⟨f,g⟩
 cases p with
 | agg a=>
  obtain ⟨vs,rfl,n⟩:=j.qcw;cases r with
  | agg b=>
   simp only [qlj] at c;have d:=zE c;obtain ⟨e,i⟩:=sp (a:=b) (b:=vs) (by rw [<-d,n.1]) h;exact ⟨.qqq e,i⟩
  | _=>simp [qlj] at c
 | tuple a=>cases r<;>simp [qlj] at c
 | _=>
  have l:=j.cellsOf (by intro ps o;cases o);cases r with
  | agg b=>simp [qlj] at c
  | tuple b=>simp [qlj] at c
  | _=>
   obtain ⟨e,i⟩:=sp (a:=P.cellsOf _) (b:=v.cells) (by rw [l.2];rfl) h;rw [l.2] at e;obtain ⟨u,q,m,s,t⟩:=ql.zk e;simp only [List.cons.injEq] at m;obtain ⟨rfl,rfl⟩:=m;exact ⟨s,i⟩
theorem qwy {w':Wd}:∀ {ps rs:List (PV K)} {vs:List V},qqr ps rs=true->ql X sz w ps vs->ql X sz w' (rs.flatMap P.cellsOf) (vs.flatMap V.cells)->ql X sz w' rs vs
 | [],[],vs,_,r,_=>by rw [r.z6];exact .nil
 | [],_::_,vs,h,_,_=>by simp [qqr] at h
 | _::_,[],vs,h,_,_=>by simp [qqr] at h
 | p::ps,q::rs,vs,h,r,a=>by
  obtain ⟨v,b,rfl,c,d⟩:=r.zk;simp only [qqr,zA] at h;rw [List.flatMap_cons,List.flatMap_cons] at a;obtain ⟨e,f⟩:=qrl h.1 c a;exact .cons e (qwy h.2 d f)
theorem q0n {p:PV K} (h:∀ ps,p≠.tuple ps):p.flat=p.cellsOf:=by
 cases p with
 | tuple ps=>simp_all
 | _=>rfl
theorem zc3 {w':Wd} {p r:PV K} {v:V} (b:za8 p r=true) (d:Rep X sz w p v) (h:∀ us,ql X sz w p.flat us->ql X sz w' r.flat us):Rep X sz w' r v:=by
 by_cases f:∃ ps,p=.tuple ps
 .obtain ⟨ps,rfl⟩:=f;obtain ⟨vs,rfl,g⟩:=d.qei;by_cases c:∃ rs,r=.tuple rs
  .obtain ⟨rs,rfl⟩:=c;have a:qqr ps rs=true:=b;exact .tuple' (qwy a g (h _ (zb6 g)))
  .exfalso;cases r with
   | tuple rs=>simp_all
   | _=>cases b
 .by_cases c:∃ rs,r=.tuple rs
  .exfalso;obtain ⟨rs,rfl⟩:=c;cases p with
   | tuple ps=>simp_all
   | _=>cases b
  .have a:qlj p r=true:=by
    cases p with
    | tuple ps=>simp_all
    | _=>cases r with
     | tuple rs=>simp_all
     | _=>exact b
   have i:=h v.cells (by rw [q0n (λps e=>f ⟨ps,e⟩)];exact d.cells);rw [q0n (λrs e=>c ⟨rs,e⟩)] at i;exact (qrl (cs:=[]) (us:=[]) a d (by simpa using i)).1
theorem zl9 (ok:CfgOk X sz C) (ok2:CfgOk2 X C) {r p:PV K} {H H':Heap} {M:Nat->Prop} {e:StV K} {w':Wd} {v:V} (U:∀ n,n<H.next->M n->w'.M n) (f:ends (qu X tbl inv meas) r p e) (R:RelH X sz C H e H' w') (W:Rep X sz w' p v) (Y:∀ p ∈ r.flat,RT p):∃ w2,Answer X sz C H M r (qni (qbs r.flat)) v H' w2:=by
 obtain ⟨q,f⟩:=cond_prop f;simp only [zA] at q;split at f
 .rename_i l t;obtain ⟨h,_⟩:=qrm f;let a:=qaf p.flat r.flat
  have z:(a.map (·.1)).Nodup:=(qf5 q.2).sublist qsx;have k:(a.map (·.2)).Nodup:=by rw [qsy];exact qf5 q.1.2
  let w2:Wd:={g:=H'.get,M:=λn=>if n<H.next then M n else w'.M n,c:=λ_=>0,nu:=λ_=>false,n:=qni (qbs r.flat),owns:=λ_=>some 0,eta:=λj=>(look a j).bind w'.eta,ce:=C.codec,cl:=λ_=>False,nx:=H'.next,b:=H.next,lp:=λ_=>none,fl:=0};have m:∀ j i,(j,i) ∈ a->w2.eta j=w'.eta i:=by
   intro j i A;show (look a j).bind w'.eta=_;rw [qvj z A];rfl
  have d:∀ j nm,w2.eta j=some nm->∃ i,(j,i) ∈ a/\w'.eta i=some nm:=by
   intro j nm B;obtain ⟨i,D,E⟩:=zI.1 B;exact ⟨i,qco D,E⟩
  refine ⟨w2,R.keeps,R.wf,rfl,λn P=>?_,λn P=>?_,rfl,rfl,λ_=>rfl,λj nm B=>?_,λu w nm Z e2=>?_,?_⟩
  .grind
  .have o:(if n<H.next then M n else w'.M n):=P;split at o
   .rename_i F;exact zL F R.keeps.next
   .exact R.Mlt n o
  .obtain ⟨i,D,E⟩:=d j nm B;obtain ⟨s,hs⟩:=qie t j i D;obtain ⟨G,I,b3⟩:=R.eta i s nm hs E;refine ⟨G,I,?_⟩;show ¬ (if nm<H.next then M nm else w'.M nm);rw [zF (by omega)];exact b3
  .obtain ⟨y,Q,G⟩:=d u nm Z;obtain ⟨S,T,I⟩:=d w nm e2;obtain ⟨s1,J⟩:=qie t u y Q;obtain ⟨s2,L⟩:=qie t w S T;have:=R.einj y S s1 s2 nm J L G I;subst this;have N:∀ (l:List (Nat×Nat)),(l.map (·.2)).Nodup->(u,y) ∈ l->(w,y) ∈ l->u=w:=by
    intro l
    induction l with
    | nil=>simp_all
    | cons x l ih=>grind
   exact N a k Q T
  .refine zc3 q.1.1 W λus O=>?_;exact qsi ok2 R (w':=w2) R.g.symm (λnm x _ A=>by
    show ¬ (if nm<H.next then M nm else w'.M nm);split
    .grind
    .exact A) R.ce.symm (λ_=>rfl) t h O Y m (λj hj=>(qua _ 0).2 j hj)
 .exact absurd f id
theorem znv (ok:CfgOk X sz C) {f:Nat} {args:List (PV K)} {W:List (PV K)->StV K->(PV K->StV K->Prop)->Prop} {r:PV K->StV K->Prop} {G:Heap->(Nat->Prop)->V->Heap->Prop}
  (u:∀ {args:List (PV K)} {st:StV K} {k:PV K->StV K->Prop} {base H:Heap} {w:Wd} {vs:List V},W args st k->RelH X sz C base st H w->ql X sz w args vs->
    qaa C.E (.func f) vs H λv H'=>∃ p a w',k p a/\a.tmps=st.tmps/\a.n=st.n/\RelH X sz C base a H' w'/\Le w w'/\Rep X sz w' p v)
  (x:∀ {H H':Heap} {M:Nat->Prop} {p:PV K} {a:StV K} {w':Wd} {v:V},Start X sz C H M->r p a->RelH X sz C H a H' w'->(∀ n,n<H.next->M n->w'.M n)->Rep X sz w' p v->G H M v H')
  (h:W (jy args 1).1 {tmps:=.nil,n:=0,cells:=[],owns:=[],next:=(jy args 1).2,known:=[]} r):∀ (H:Heap) (M:Nat->Prop) (vs:List V),Start X sz C H M->ql X sz (wd0 H M C.codec) args vs->qaa C.E (.func f) vs H (G H M):=by
 intro H M vs S y;have d:Le (wd0 H M C.codec) {wd0 H M C.codec with n:=1}:=Le.ext (w:=wd0 H M C.codec) (m:=1) (nu':=λ_=>false) (Nat.zero_le _) (λ_ _=>rfl);have g:=y.mono ok.len d;obtain ⟨nu',g1,g2,z⟩:=qec ok.len g (zN 1);let t:Wd:={wd0 H M C.codec with n:=(jy args 1).2,nu:=nu'};have e:Le (wd0 H M C.codec) t:=Le.ext (w:=wd0 H M C.codec) (Nat.zero_le _) (λid hi=>by have:id<0:=hi;omega);have A:RelH X sz C H {tmps:=.nil,n:=0,cells:=[],owns:=[],next:=(jy args 1).2,known:=[]} H t:=by
  refine ⟨S.wf,S.ro,rfl,rfl,rfl,S.Mlt,rfl,g2,.refl H,λ_ l=>False.elim l,λ_ _ l=>False.elim l,λid ps c=>(by cases c),λ_=>rfl,λi s c=>(by cases c),λi s nm c=>(by cases c),λi j s Y nm c=>(by cases c),rfl,λid b c=>(by cases c),λgn ps B=>?_⟩;obtain ⟨D,o,F,fl,I,ex',J,L,N⟩:=S.globs gn ps B;exact ⟨D,o,F,fl,I,ex',J,L,N.mono ok.len e⟩
 refine (u h A z).mono λv H' O=>?_;obtain ⟨p,a,w',P,_,_,R,q,Q⟩:=O;exact x S P R (λn T U=>q.Mu n T U) Q
theorem q5n (ok:CfgOk X sz C) (ok2:CfgOk2 X C) {f:Nat} {args:List (PV K)} {r:PV K} {W:List (PV K)->StV K->(PV K->StV K->Prop)->Prop}
  (c:∀ {args:List (PV K)} {st:StV K} {k:PV K->StV K->Prop} {base H:Heap} {w:Wd} {vs:List V},W args st k->RelH X sz C base st H w->ql X sz w args vs->
    qaa C.E (.func f) vs H λv H'=>∃ p a w',k p a/\a.tmps=st.tmps/\a.n=st.n/\RelH X sz C base a H' w'/\Le w w'/\Rep X sz w' p v) (d:∀ p ∈ r.flat,RT p)
  (h:W (jy args 1).1 {tmps:=.nil,n:=0,cells:=[],owns:=[],next:=(jy args 1).2,known:=[]} (ends (qu X tbl inv meas) r)):qhp X sz C f args r:=
 znv ok c (λ_ e R b g=>zl9 ok ok2 b e R g d) h
theorem q0p (ok:CfgOk X sz C) (ok2:CfgOk2 X C) (tok:qcu X sz C tbl) (a:qt C) {depth f:Nat} {args:List (PV K)} {r:PV K} (_hpl:∀ p ∈ args,Plain p) (b:∀ p ∈ r.flat,RT p) (h:qtp (qu X tbl inv meas) C depth f args r):qhp X sz C f args r:=
 q5n ok ok2 (W:=λargs st k=>qzg (qu X tbl inv meas) C (qv2 (qu X tbl inv meas) C depth) f args st k) (λh R c=>qtm ok ok2 tok a (qlh ok ok2 tok a depth) h R c) b h
end
end Go.E3
/- E3: TOOLS for claims: tables by lists, list elements of a claim's own types. -/
namespace Go.E3
open Go Go.E2
variable {K:Nat->Type}
def qir:List (Nat×Nat×Ann)->Nat->Nat->Option Ann
 | [],_,_=>none
 | (f,p,a)::l,g,q=>if f=g/\p=q then some a else qir l g q
abbrev Ct (K:Nat->Type):=List Sh×(List (NV K)->Option (Prop×PV K))
def qe2:List (Nat×Ct K)->Tbl K
 | [],_=>none
 | (f,c)::l,g=>if Nat.beq f g then some c else qe2 l g
section
variable {X:Codecs K} {sz:Nat->Nat} {C:ZC K}
def kz (X:Codecs K) (sz:Nat->Nat) (C:ZC K) (f:Nat) (c:Ct K):Prop:=
 ∀ b a r,c.2 b=some (a,r)->a->∃ args,qcy c.1 b=some args/\qhp X sz C f args r/\Form r
theorem qlf:qcu X sz C (qe2 []):=λf a b d c r h=>by cases h
theorem q89 {f:Nat} {c:Ct K} {l:List (Nat×Ct K)} (h:kz X sz C f c) (m:qcu X sz C (qe2 l)):qcu X sz C (qe2 ((f,c)::l)):=by
 intro g d e i a r b j k;simp only [qe2,cond_eq_ite,Nat.beq_eq] at b;split at b
 .rename_i n;subst n;cases b;exact h i a r j k
 .exact m g d e i a r b j k
theorem CfgOk.ann (h:CfgOk X sz C) (a:Nat->Nat->Option Ann):CfgOk X sz {C with ann:=a}:=⟨h.len,h.pos,h.size,h.inj,h.one,h.u8,h.pack⟩
theorem CfgOk2.ann (h:CfgOk2 X C) (a:Nat->Nat->Option Ann):CfgOk2 X {C with ann:=a}:=⟨h.plain,h.qp⟩
theorem qhp.ann {f:Nat} {args:List (PV K)} {r:PV K} (h:qhp X sz C f args r) (a:Nat->Nat->Option Ann):qhp X sz {C with ann:=a} f args r:=by
 intro H M vs S c;refine (h H M vs ⟨S.wf,S.ro,S.Mlt,S.globs⟩ c).mono λv H' d=>?_;obtain ⟨w',b⟩:=d;exact ⟨w',b.keeps,b.wf,b.g,b.M,b.Mlt,b.ce,b.n,b.owns,b.eta,b.einj,b.rep⟩
theorem qhp.zlz {f:Nat} {args:List (PV K)} {r:PV K} {a:Nat->Nat->Option Ann} (h:qhp X sz {C with ann:=a} f args r):qhp X sz C f args r:=by
 intro H M vs S c;refine (h H M vs ⟨S.wf,S.ro,S.Mlt,S.globs⟩ c).mono λv H' d=>?_;obtain ⟨w',b⟩:=d;exact ⟨w',b.keeps,b.wf,b.g,b.M,b.Mlt,b.ce,b.n,b.owns,b.eta,b.einj,b.rep⟩
theorem zeg (ok:CfgOk X sz C) (ok2:CfgOk2 X C) {l:List (Nat×Ct K)} (tok:qcu X sz C (qe2 l)) (i:qt C) {inv:Nat->List (NV K)->Prop} {meas:Nat->List (NV K)->Nat} {ann:List (Nat×Nat×Ann)} {depth f:Nat} {args:List (PV K)} {r:PV K} {g:Prop}
  (a:∀ p ∈ args,Plain p) (j:∀ p ∈ r.flat,RT p) (b:qtp (qu X (qe2 l) inv meas) {C with ann:=qir ann} depth f args r=g) (h:g):qhp X sz C f args r:=
 q0p (C:={C with ann:=qir ann}) (tbl:=qe2 l) (inv:=inv) (meas:=meas) (ok.ann _) (ok2.ann _) (λf c d k e r m n o=>by
  obtain ⟨q,s,t,u⟩:=tok f c d k e r m n o;exact ⟨q,s,t.ann _,u⟩) i a j (b.symm ▸ h) |>.zlz
theorem znw (ok:CfgOk X sz C) (ok2:CfgOk2 X C) {l:List (Nat×Ct K)} (tok:qcu X sz C (qe2 l)) (o:qt C) {inv:Nat->List (NV K)->Prop} {meas:Nat->List (NV K)->Nat} {ann:List (Nat×Nat×Ann)} {depth f:Nat} {args:List (PV K)} {r:PV K} {m:Prop}
  (a:∀ p ∈ args,Plain p) (s:∀ p ∈ r.flat,RT p) (c:qtp (qu X (qe2 l) inv meas) {C with ann:=qir ann,born:=λ_=>false,keepM:=λ_=>false} depth f args r=m) (h:m):qhp X sz C f args r:=by
 have q:=q0p (C:={C with ann:=qir ann,born:=λ_=>false,keepM:=λ_=>false}) (tbl:=qe2 l) (inv:=inv) (meas:=meas) ⟨ok.len,ok.pos,ok.size,ok.inj,ok.one,ok.u8,ok.pack⟩ ⟨ok2.plain,ok2.qp⟩ (λf d e t i r u w x=>by
  obtain ⟨y,z,A,B⟩:=tok f d e t i r u w x;refine ⟨y,z,λH M vs S j=>(A H M vs ⟨S.wf,S.ro,S.Mlt,S.globs⟩ j).mono λv H' k=>?_,B⟩;obtain ⟨w',b⟩:=k;exact ⟨w',b.keeps,b.wf,b.g,b.M,b.Mlt,b.ce,b.n,b.owns,b.eta,b.einj,b.rep⟩) o a s (c.symm ▸ h)
 intro H M vs S j;refine (q H M vs ⟨S.wf,S.ro,S.Mlt,S.globs⟩ j).mono λv H' k=>?_;obtain ⟨w',b⟩:=k;exact ⟨w',b.keeps,b.wf,b.g,b.M,b.Mlt,b.ce,b.n,b.owns,b.eta,b.einj,b.rep⟩
def q3u:PV K->Bool
 | .int .. | .lit _ | .str _ | .nils | .nilp | .nilf | .nili=>true
 | .sb 0 _ _ _ _=>true
 | .list _ _ none=>true
 | .func _ [] []=>true
 | _=>false
def q8w:PV K->Bool
 | .agg ps=>ps.all q3u
 | p=>q3u p
theorem q1i {p:PV K} (h:q3u p=true):Plain p:=by
 unfold q3u at h;split at h<;>first | (cases h;done) | constructor
theorem zcw {p:PV K} (h:q8w p=true):Plain p:=by
 unfold q8w at h;split at h
 .exact .agg λp a=>q1i (List.all_eq_true.1 h p a)
 .exact q1i h
theorem qa4 {ps:List (PV K)} (h:ps.all q8w=true):∀ p ∈ ps,Plain p:=λp a=>zcw (List.all_eq_true.1 h p a)
def qd1 (k:IntKind):PV K->Option Int
 | .int a _ n=>if k=a then some n else none
 | _=>none
def zca:PV K->Option Bool
 | .lit b=>some b
 | .sb _ _ b _ _=>some b
 | _=>none
variable {w:Wd}
theorem zy {k:IntKind} {p:PV K} {n:Int} {v:V} (h:qd1 k p=some n) (r:Rep X sz w p v):Rep X sz w (.int k none n) v:=by
 unfold qd1 at h;split at h
 .split at h
  .rename_i a;subst a;cases h;cases r;exact .int λm b=>by cases b
  .cases h
 .cases h
theorem qr7 {p:PV K} {b:Bool} {v:V} (h:zca p=some b) (r:Rep X sz w p v):Rep X sz w (.sb 0 false b (b=true) (b=false)) v:=by
 unfold zca at h;split at h
 .cases h;cases r;exact .sb .rfl .rfl λa=>absurd rfl a
 .cases h;cases r;exact .sb .rfl .rfl λa=>absurd rfl a
 .cases h
theorem zm {p q:PV K} {ps b:List (PV K)} {vs:List V} (h:∀ v,Rep X sz w p v->Rep X sz w q v) (c:∀ us,ql X sz w ps us->ql X sz w b us) (r:ql X sz w (p::ps) vs):ql X sz w (q::b) vs:=by
 obtain ⟨v,a,rfl,d,e⟩:=r.zk;exact .cons (h v d) (c a e)
end
end Go.E3
/- E3: FUNCTIONS WITHOUT A BODY as contracts. -/
namespace Go.E3
open Go Go.E2
variable {K:Nat->Type}
section
variable {X:Codecs K} {sz:Nat->Nat} {C:ZC K}
theorem zef (ok2:CfgOk2 X C) {f:Nat} {r:PV K} {v:V} (c:Plain r) (d:qbs r.flat=[]) (h:∀ H,H.qp=C.ng->(∀ gn o,C.gobj gn=some o->H.get gn=some o/\gn<H.next)->qaa C.E (.func f) [] H λu H'=>u=v/\H'=H) (e:∀ H M,Rep X sz (wd0 H M C.codec) r v):qhp X sz C f [] r:=by
 intro H M vs S g;have:=g.z6;subst this;refine (h H S.ro.2.1 S.ro.2.2).mono λu H' k=>?_;obtain ⟨rfl,rfl⟩:=k;let w':Wd:={wd0 H' M C.codec with owns:=λ_=>some 0};have a:Rep X sz w' r u:=Rep.plain (w:=wd0 H' M C.codec) (w':=w') ok2.plain rfl (λ_ _ _ h=>h) (e H' M) c;refine ⟨w',?_⟩;refine ⟨.refl H',S.wf,rfl,λn _=>.rfl,S.Mlt,rfl,?_,λ_=>rfl,λi nm b=>(by cases b),λi j nm b=>(by cases b),a⟩;rw [d];rfl
end
end Go.E3
/- E3: ARGUMENTS THAT LIE IN MEMORY: slices whose elements are numbers, conditions, texts, structs of such. -/
namespace Go.E3
open Go Go.E2
variable {K:Nat->Type}
def qgo:Value->V
 | .int k n=>.int k n
 | .bool b=>.bool b
 | .string s=>.str s.data.toList
 | _=>.tuple [.slice 0 0 0 0 0 none]
theorem zdd (G:qj) (W:World) (x:Value):isHole (qgo x)=true∨Go.E2.Rel G W (qgo x) x:=by
 cases x with
 | int k n=>right;simp [qgo,Go.E2.Rel]
 | bool b=>right;simp [qgo,Go.E2.Rel]
 | string s=>right;simp [qgo,Go.E2.Rel]
 | _=>exact .inl rfl
theorem q6p (G:qj) (W:World):∀ l:List Value,jd G W (l.map qgo) l
 | []=>by simp [jd]
 | x::l=>by
  simp only [List.map_cons,jd];exact ⟨x,l,rfl,zdd G W x,q6p G W l⟩
def zi2 (W:World) (b:Nat):Option (Nat×O):=
 match W.heap[b]? with
 | some (.cells a e c)=>some (b,.row (a.toList.map qgo) e 0 0 c.2 true)
 | _=>none
def zfi (W:World):List (Nat×O):=(List.range W.heap.size).filterMap (zi2 W)
theorem zcp {W:World} {b:Nat} {x:Nat×O} (h:zi2 W b=some x):∃ a e c,W.heap[b]? = some (.cells a e c)/\x=(b,.row (a.toList.map qgo) e 0 0 c.2 true):=by
 unfold zi2 at h;split at h
 .rename_i a e c d;exact ⟨a,e,c,d,(Option.some.inj h).symm⟩
 .cases h
theorem q09 {W:World} {b:Nat} {o:O} (h:(b,o) ∈ zfi W):∃ a e c,W.heap[b]? = some (.cells a e c)/\o=.row (a.toList.map qgo) e 0 0 c.2 true:=by
 obtain ⟨i,_,d⟩:=List.mem_filterMap.1 h;obtain ⟨a,e,c,f,g⟩:=zcp d;cases g;exact ⟨a,e,c,f,rfl⟩
def qd4 (W:World) (ng:Nat):Heap:={qbu:=qer (zfi W),next:=W.heap.size,ro:=W.heap.size,qp:=ng}
theorem qik {W:World} {ng b:Nat} {arr:Array Value} {e:TypeId} {a:Nat×Nat} (h:W.heap[b]? = some (.cells arr e a)):(qd4 W ng).get b=some (.row (arr.toList.map qgo) e 0 0 a.2 true):=by
 have f:(b,O.row (arr.toList.map qgo) e 0 0 a.2 true) ∈ zfi W:=by
  refine List.mem_filterMap.2 ⟨b,List.mem_range.2 (qjd h),?_⟩;unfold zi2;rw [h]
 obtain ⟨o,c⟩:=qnf f;obtain ⟨arr',i,g,d,rfl⟩:=q09 (qce _ _ _ c);rw [h] at d;cases d;exact c
theorem qq3 {W:World} {ng b:Nat} {o:O} (h:(qd4 W ng).get b=some o):∃ a e c,W.heap[b]? = some (.cells a e c)/\o=.row (a.toList.map qgo) e 0 0 c.2 true:=
 q09 (qce _ _ _ h)
def qga (W:World):qj:=λnm g=>if g=0 then (match W.heap[nm]? with
 | some (.cells a _ _)=>some (nm,0,a.size)
 | _=>none) else none
theorem qd3 {W:World} {nm g:Nat} {x:Nat×Nat×Nat} (h:qga W nm g=some x):g=0/\∃ a e b,W.heap[nm]? = some (.cells a e b)/\x=(nm,0,a.size):=by
 unfold qga at h;split at h
 .rename_i c;split at h
  .rename_i a e b d;exact ⟨c,a,e,b,d,(Option.some.inj h).symm⟩
  .cases h
 .cases h
theorem qt8 {W:World} {b:Nat} {arr:Array Value} {e:TypeId} {a:Nat×Nat} (h:W.heap[b]? = some (.cells arr e a)):qga W b 0=some (b,0,arr.size):=by
 unfold qga;rw [zT rfl,h]
theorem zvs {W:World} {ng:Nat} (j:ng<=W.heap.size):Sim (qd4 W ng) (qga W) W:=by
 refine ⟨λnm g b sh n h=>?_,λnm g b sh n nm' t p u h q=>?_,λnm o _ k=>?_,zN _,j,λg o _ k=>?_⟩
 .obtain ⟨_,a,e,l,c,d⟩:=qd3 h;cases d;exact ⟨qjd c,qjd c⟩
 .obtain ⟨_,_,_,_,_,d⟩:=qd3 h;obtain ⟨_,_,_,_,_,m⟩:=qd3 q;cases d;cases m;exact ⟨rfl,rfl⟩
 .obtain ⟨a,e,l,c,rfl⟩:=qq3 k;refine ⟨zN _,λ_=>rfl,λg b sh n r=>?_⟩;obtain ⟨rfl,arr',v,s,f,d⟩:=qd3 r;rw [c] at f;cases f;cases d;refine ⟨zN _,Nat.zero_le _,by simp,λ_=>by simp,λ_=>rfl,λ_=>⟨a,l,c,by simp,?_,λ_ i w x=>by omega,λ_=>by simp⟩⟩;rw [List.drop_zero,Nat.sub_zero,List.take_of_length_le (by simp),List.take_of_length_le (by simp)];exact q6p _ _ _
 .obtain ⟨a,e,l,c,_⟩:=qq3 k;exact ⟨_,qt8 c⟩
theorem zb5 {W w':World} {i:qj} (h:Ext W.heap.size (qga W) W i w'):∀ b,b<W.heap.size->w'.heap[b]? = W.heap[b]?:=by
 intro b f;cases a:qga W b 0 with
 | some x=>
  obtain ⟨_,c,e,j,_,rfl⟩:=qd3 a;exact h.ro b 0 b 0 _ f a
 | none=>
  refine (h.frg b f λnm g sh n k=>?_).1;obtain ⟨rfl,c,e,j,d,l⟩:=qd3 k;cases l;rw [qt8 d] at a;cases a
inductive Leaf4 where
 | int (k:IntKind)
 | bool
 | str
 | list (c:Nat)
def Leaf4.flat:Leaf4->Bool
 | .list _=>false
 | _=>true
def qy9 (P:Program) (g:TypeId->Option (List Leaf4)):List Field->Nat->Option (List Leaf4)
 | [],_=>some []
 | f::a,off=>(g f.type).bind λl=>if Nat.beq f.offset off&&Nat.beq l.length (P.cellsOf f.type) then (qy9 P g a (off+l.length)).map λr=>l++r else none
def q1x (P:Program) (a:TypeId->Option Nat):Nat->TypeId->Option (List Leaf4)
 | 0,_=>none
 | d+1,t=>match P.underlying t with
  | some (.int k)=>some [.int k]
  | some .bool=>some [.bool]
  | some .string=>some [.str]
  | some (.slice e)=>(a e).map λc=>[.list c]
  | some (.struct b)=>(qy9 P (q1x P a d) b.toList 0).bind λl=>if Nat.beq l.length (P.cellsOf t) then some l else none
  | _=>none
section
variable {Hd:Type} {enc:TypeId×Value->Hd} {P:Program} {W:World} {cd:TypeId->Option Nat}
def qet (enc:TypeId×Value->Hd) (P:Program) (W:World) (d:TypeId->Option Nat):Leaf4->Value->Prop
 | .int k,x=>∃ n,x=.int k n/\(Lit.int k n).wf=true
 | .bool,x=>∃ b,x=.bool b
 | .str,x=>∃ s,x=.string s/\s.size<=maxLen
 | .list c,x=>x=.slice none 0 0∨∃ e a len cap,d e=some c/\x=.slice (some a) len cap/\len<=cap/\cap<=maxLen/\
   ∀ i,i<cap->∃ cs m r,W.cells? 0 (a.add (i * P.cellsOf e)) (P.cellsOf e)=some cs/\DataW.trod enc P W 0 (λ_=>true) true m e cs=some r
theorem qv0 {Q:Leaf4->Value->Prop} {cs:List Value} {g:TypeId->Option (List Leaf4)}:∀ {d:List Field} {off:Nat} {ls:List Leaf4},qy9 P g d off=some ls->
  (∀ f ∈ d,∀ l,g f.type=some l->l.length=P.cellsOf f.type->∀ (i:Nat) leaf x,l[i]? = some leaf->((cs.drop f.offset).take (P.cellsOf f.type))[i]? = some x->Q leaf x)->
  ∀ (i:Nat) leaf x,ls[i]? = some leaf->cs[off+i]? = some x->Q leaf x
 | [],off,ls,h,_,i,leaf,x,a,_=>by
  simp only [qy9,zS] at h;subst h;simp at a
 | f::d,off,ls,h,j,i,leaf,x,a,k=>by
  simp only [qy9] at h;obtain ⟨l,m,n⟩:=zI.1 h;rcases zz n with ⟨_,c⟩ | ⟨c,o⟩
  .cases c
  .simp only [zA,Nat.beq_eq] at c;obtain ⟨rfl,b⟩:=c;obtain ⟨r,p,rfl⟩:=zM.1 o;by_cases hi:i<l.length
   .rw [List.getElem?_append_left hi] at a;refine j f zC l m b i leaf x a ?_;rw [List.getElem?_take_of_lt (by omega),List.getElem?_drop];exact k
   .rw [List.getElem?_append_right (by omega)] at a;refine qv0 p (λq e=>j q (zG _ e)) (i-l.length) leaf x a ?_;rw [show f.offset+l.length+(i-l.length)=f.offset+i by omega];exact k
theorem qpj:∀ (d:Nat) {n:Nat} {t:TypeId} {cs:List Value} {r:DataW Hd×List MemPlace} {ls:List Leaf4},DataW.trod enc P W 0 (λ_=>true) true n t cs=some r->q1x P cd d t=some ls->
  cs.length=ls.length/\∀ (i:Nat) leaf x,ls[i]? = some leaf->cs[i]? = some x->qet enc P W cd leaf x
 | 0,n,t,cs,r,ls,h,o=>by cases o
 | d+1,n,t,cs,r,ls,h,o=>by
  have g:∀ {leaf:Leaf4} {x:Value},qet enc P W cd leaf x->[x].length=[leaf].length/\∀ (i:Nat) l y,[leaf][i]? = some l->[x][i]? = some y->qet enc P W cd l y:=by
   intro leaf x J;refine ⟨rfl,λi l y p v=>?_⟩;cases i with
   | zero=>simp only [List.getElem?_cons_zero,zS] at p v;subst p;subst v;exact J
   | succ i=>simp at p
  simp only [q1x] at o;split at o
  .rename_i k u;cases o;obtain ⟨m,rfl,_,K⟩:=DataW.trod_int u h;exact g ⟨m,rfl,K⟩
  .rename_i u;cases o;obtain ⟨b,rfl,_⟩:=DataW.trod_bool u h;exact g ⟨b,rfl⟩
  .rename_i u;cases o;obtain ⟨s,rfl,_,L⟩:=DataW.trod_string u h;exact g ⟨s,rfl,L⟩
  .rename_i e u;obtain ⟨c,M,rfl⟩:=zM.1 o;rcases DataW.trod_slice u h with ⟨rfl,_⟩ | ⟨a,len,cap,elems,rest,m,_,rfl,_,_,F,N,O,z,A,_⟩
   .exact g (.inl rfl)
   .refine g (.inr ⟨e,a,len,cap,M,rfl,F,N,λi hi=>?_⟩);obtain ⟨R,B⟩:=A rfl;by_cases C:i<len
    .have:=z i C;rw [List.getElem?_eq_getElem (by omega)] at this;obtain ⟨w,p,v⟩:=zI.1 this;exact ⟨w,m,_,p,v⟩
    .have:=B (i-len) (by omega);rw [List.getElem?_eq_getElem (by omega),show len+(i-len)=i by omega] at this;obtain ⟨w,p,v⟩:=zI.1 this;exact ⟨w,m,_,p,v⟩
  .rename_i S u;obtain ⟨l,p,v⟩:=zI.1 o;rcases zz v with ⟨_,D⟩ | ⟨D,T⟩
   .cases D
   .cases T;have G:=zE D;obtain ⟨xs,m,_,_,F,U,V⟩:=DataW.trod_struct u h;refine ⟨by omega,λi leaf x hi X=>?_⟩;refine qv0 (Q:=qet enc P W cd) (off:=0) p (λf E l' Y Z j lf y hj hy=>?_) i leaf x hi (by simpa using X);obtain ⟨q,H,rfl⟩:=List.mem_iff_getElem.1 E;have I:=V q S.toList[q] (by simp at H ⊢);rw [List.getElem?_eq_getElem (by simp at H;omega)] at I;exact (qpj d I Y).2 j lf y hj hy
  .cases o
def q4j (qhs:∀ c,K c->Prop):Leaf4->PV K->Prop
 | .int k,p=>∃ n,p=.int k none n/\k.min<=n/\n<=k.max
 | .bool,p=>∃ b,p=.sb 0 false b (b=true) (b=false)
 | .str,p=>∃ s:List UInt8,p=.str s/\s.length<=maxLen
 | .list c,p=>∃ l:List (K c),p=.list c l none/\l.length<=maxLen/\∀ x ∈ l,qhs c x
def qri (qhs:∀ c,K c->Prop):List Leaf4->List (PV K)->Prop
 | [],ps=>ps=[]
 | l::ls,ps=>∃ p a,ps=p::a/\q4j qhs l p/\qri qhs ls a
variable {qhs:∀ c,K c->Prop}
variable {X:Codecs K} {sz:Nat->Nat} {w:Wd}
theorem q0x {leaf:Leaf4} {x:Value} (d:leaf.flat=true) (h:qet enc P W cd leaf x):∃ p:PV K,q4j qhs leaf p/\Rep X sz w p (qgo x):=by
 cases leaf with
 | int k=>
  obtain ⟨n,rfl,a⟩:=h;simp only [Lit.wf,zA,decide_eq_true_eq] at a;exact ⟨_,⟨n,rfl,a⟩,.int λm e=>by cases e⟩
 | bool=>
  obtain ⟨b,rfl⟩:=h;exact ⟨_,⟨b,rfl⟩,.sb .rfl .rfl λf=>absurd rfl f⟩
 | str=>
  obtain ⟨s,rfl,g⟩:=h;exact ⟨_,⟨s.data.toList,rfl,by simpa using g⟩,.str⟩
 | list c=>cases d
theorem qvf:∀ {ls:List Leaf4} {cs:List Value},ls.all Leaf4.flat=true->cs.length=ls.length->(∀ (i:Nat) leaf x,ls[i]? = some leaf->cs[i]? = some x->qet enc P W cd leaf x)->
  ∃ ps:List (PV K),qri qhs ls ps/\ql X sz w ps (cs.map qgo)
 | [],[],_,_,_=>⟨[],rfl,.nil⟩
 | [],_::_,_,h,_=>by simp at h
 | _::_,[],_,h,_=>by simp at h
 | l::ls,x::cs,a,c,b=>by
  simp only [List.all_cons,zA] at a;obtain ⟨p,d,e⟩:=q0x (X:=X) (sz:=sz) (w:=w) a.1 (b 0 l x rfl rfl);obtain ⟨ps,f,g⟩:=qvf (cs:=cs) a.2 (by simpa using c) λi leaf y j k=>b (i+1) leaf y (by simpa using j) (by simpa using k);exact ⟨p::ps,⟨p,ps,rfl,d,f⟩,.cons e g⟩
theorem qvh {α:Type} {Q:Nat->α->Prop}:∀ {n:Nat},(∀ i,i<n->∃ x,Q i x)->∃ l:List α,l.length=n/\∀ (i:Nat) (h:i<l.length),Q i (l[i]'h)
 | 0,_=>⟨[],rfl,λi h=>by simp at h⟩
 | n+1,h=>by
  obtain ⟨l,b,c⟩:=qvh (n:=n) λi hi=>h i (by omega);obtain ⟨x,d⟩:=h n (by omega);refine ⟨l++[x],by simp [b],λi hi=>?_⟩;by_cases a:i<l.length
  .rw [List.getElem_append_left a];exact c i a
  .have:i=n:=by simp at hi;omega
   subst this;rw [List.getElem_append_right (by omega)];simpa [b] using d
theorem zc0 {f:TypeId->Bool}:∀ {d:Nat} {e:TypeId} {a off n:Nat},rowAt P f d e a off n=true->off<=a * P.cellsOf e
 | 0,_,_,_,_,h=>by simp [rowAt] at h
 | d+1,e,a,off,n,h=>by
  unfold rowAt at h;by_cases b:P.cellsOf e=0
  .simp [b] at h
  .simp only [b,if_false,Bool.or_eq_true,zA,beq_iff_eq,decide_eq_true_eq] at h;have c:=Nat.div_add_mod off (P.cellsOf e);have i:=Nat.mod_lt off (Nat.pos_of_ne_zero b);rcases h with ⟨⟨g,j⟩,_⟩ | ⟨g,_⟩
   .have:=zU (P.cellsOf e) (show off / P.cellsOf e<=a by omega);rw [Nat.mul_comm] at c;omega
   .have:=zU (P.cellsOf e) (show off / P.cellsOf e+1<=a by omega);rw [Nat.add_mul,Nat.one_mul] at this;rw [Nat.mul_comm] at c;omega
theorem qya:∀ {d:Nat} {e:TypeId} {a off:Nat} {u:TypeId} {n:Nat},liesAt P d e a off u n=true->off<=a * P.cellsOf e
 | 0,_,_,_,_,_,h=>by simp [liesAt] at h
 | d+1,e,a,off,u,n,h=>by
  unfold liesAt at h;simp only [Bool.or_eq_true] at h;rcases h with h | h
  .exact zc0 h
  .split at h
   .exact qya h
   .cases h
theorem zgl {base:Nat} {u:TypeId} {a:Addr} {len cap:Nat} (h:Cell.okWide P W .any base u (.slice (some a) len cap)) :
  a.spot=none/\∃ b e g,W.heap[a.block]? = some (.cells b e g)/\a.off<=b.size:=by
 have d:Cell.ok P W .any base u (.slice (some a) len cap):=by
  unfold Cell.okWide at h;split at h<;>first | exact h | (rename_i c;cases c)
 unfold Cell.ok at d;split at d<;>try (first | exact d.elim | (rename_i c;cases c;done))
 rename_i e n i j _ c;cases c;obtain ⟨_,_,_,k,row,cells,f,l⟩:=d;refine ⟨k,?_⟩;simp only [World.shape?] at f;split at f
 .rename_i b o g m;cases f;refine ⟨b,_,g,m,zR (qya l) ?_⟩;exact Nat.div_mul_le_self _ _
 .cases f
structure ArgOk (qhs:∀ c,K c->Prop) (X:Codecs K) (sz:Nat->Nat) (P:Program) (cd:TypeId->Option Nat) (depth:Nat):Prop where
 elem:∀ e c,cd e=some c->∃ ls,q1x P cd depth e=some ls/\ls.all Leaf4.flat=true/\ls.length=sz c/\P.cellsOf e=sz c/\0<sz c/\∀ ps:List (PV K),qri qhs ls ps->∃ pre x,X.pack c ps=some (pre,x)/\pre/\qhs c x
theorem zcl {C:ZC K} (ok:CfgOk X sz C) {depth ng:Nat} (ao:ArgOk qhs X sz P cd depth) {base:Nat} {u:TypeId} {c:Nat} {x:Value} {M:Nat->Prop} (hM:∀ n,¬ M n) (hc:Cell.okWide P W .any base u x) (h:qet enc P W cd (.list c) x) :
  ∃ (p:PV K) (v:V),q4j qhs (.list c) p/\Rep X sz (wd0 (qd4 W ng) M C.codec) p v/\Go.E2.Rel (qga W) W v x:=by
 rcases h with rfl | ⟨e,a,len,cap,he,rfl,F,a0,hr⟩
 .exact ⟨.list c [] none,.nils,⟨[],rfl,Nat.zero_le _,λx hx=>by cases hx⟩,.nlist trivial,by simp [Go.E2.Rel]⟩
 .obtain ⟨s,f,el,fz,t,o⟩:=zgl hc;obtain ⟨b,off,a1⟩:=a;simp only at s t o;subst s;obtain ⟨ls,h1,h2,h3,h4,h5,h6⟩:=ao.elem e c he;rw [h4] at hr;have g:∀ i,i<cap->∃ cs:List Value,cs.length=sz c/\(∀ j,j<sz c->f[off+i * sz c+j]? = cs[j]?)/\∃ y:K c,qhs c y/\ql X sz (wd0 (qd4 W ng) M C.codec) (X.cells c y) (cs.map qgo):=by
   intro i hi;obtain ⟨cs,m,r,h7,h8⟩:=hr i hi;obtain ⟨_,h9,G⟩:=World.cells?_some h7;obtain ⟨H,I⟩:=qpj depth h8 h1;obtain ⟨ps,J,L⟩:=qvf (X:=X) (sz:=sz) (w:=wd0 (qd4 W ng) M C.codec) h2 H I;obtain ⟨N,y,O,R,S⟩:=h6 ps J;refine ⟨cs,h9,λj T=>?_,y,S,ok.pack c ps N y O R _ _ L⟩;have z:((⟨b,off,none⟩:Addr).add (i * sz c)).add j=⟨b,off+i * sz c+j,none⟩:=by
    unfold Addr.add;by_cases U:i * sz c=0
    .rw [zT U,U];by_cases d:j=0
     .rw [zT d,d];simp
     .rw [zF d];simp
    .rw [zF U];by_cases d:j=0
     .rw [zT d,d];simp
     .rw [zF d]
   have:=G j T;rw [z] at this;simp only [World.cell?,t] at this;simpa using this
  have A:off+cap * sz c<=f.size:=by
   cases cap with
   | zero=>simpa using o
   | succ q=>
    obtain ⟨cs,g1,g2,_⟩:=g q (Nat.lt_succ_self q);have:=g2 (sz c-1) (by omega);rw [List.getElem?_eq_getElem (by omega)] at this;have:=(Array.getElem?_eq_some_iff.1 this).1;rw [Nat.add_mul,Nat.one_mul];omega
  have a2:len * sz c<=cap * sz c:=zU _ F;obtain ⟨l,g1,g2⟩:=qvh (Q:=λi (y:K c)=>∃ cs:List Value,cs.length=sz c/\(∀ j,j<sz c->f[off+i * sz c+j]? = cs[j]?)/\qhs c y/\ql X sz (wd0 (qd4 W ng) M C.codec) (X.cells c y) (cs.map qgo)) (n:=len) λi hi=>by
   obtain ⟨cs,Y,B,y,D,E⟩:=g i (by omega);exact ⟨y,cs,Y,B,D,E⟩
  refine ⟨.list c l none,.slice b 0 off len (sz c) (some cap),⟨l,rfl,by omega,λy hy=>?_⟩,?_,?_⟩
  .obtain ⟨i,hi,rfl⟩:=List.mem_iff_getElem.1 hy;obtain ⟨cs,Y,B,D,E⟩:=g2 i hi;exact D
  .refine .list (qik t) (zN _) (hM b) g1.symm (by simp;omega) ⟨h5,.inl rfl⟩ (λk Z=>by cases Z;exact F) (λi hi j p hp=>?_) trivial;obtain ⟨cs,Y,B,D,E⟩:=g2 i hi;have T:j<sz c:=by rw [<-ok.len c (l[i]'hi)];exact (List.getElem?_eq_some_iff.1 hp).1
   have:=E.2 j p hp;rw [List.getD_eq_getElem?_getD,List.getElem?_map] at this ⊢;rw [Array.getElem?_toList,B j T];exact this
  .simp only [Go.E2.Rel];exact ⟨b,0,f.size,off,cap,el,f.size,_,qt8 t,rfl,.inr rfl,F,Nat.zero_le _,by omega,.inl rfl,λk Z=>by cases Z;exact ⟨rfl,A⟩,by simp only [World.shape?,t],A⟩
theorem zec {leaf:Leaf4} {x:Value} (a:leaf.flat=true) (h:qet enc P W cd leaf x) (G:qj):Go.E2.Rel G W (qgo x) x:=by
 cases leaf with
 | int k=>obtain ⟨n,rfl,_⟩:=h;simp [qgo,Go.E2.Rel]
 | bool=>obtain ⟨b,rfl⟩:=h;simp [qgo,Go.E2.Rel]
 | str=>obtain ⟨s,rfl,_⟩:=h;simp [qgo,Go.E2.Rel]
 | list c=>cases a
theorem q0y {C:ZC K} (ok:CfgOk X sz C) {depth ng:Nat} (b:ArgOk qhs X sz P cd depth) {base:Nat} {u:TypeId} {leaf:Leaf4} {x:Value} {M:Nat->Prop} (d:∀ n,¬ M n) (e:Cell.okWide P W .any base u x) (h:qet enc P W cd leaf x) :
  ∃ (p:PV K) (v:V),q4j qhs leaf p/\Rep X sz (wd0 (qd4 W ng) M C.codec) p v/\Go.E2.Rel (qga W) W v x:=by
 cases a:leaf.flat with
 | true=>
  obtain ⟨p,f,g⟩:=q0x (X:=X) (sz:=sz) (w:=wd0 (qd4 W ng) M C.codec) a h;exact ⟨p,qgo x,f,g,zec a h _⟩
 | false=>
  cases leaf with
  | list c=>exact zcl ok b d e h
  | _=>cases a
theorem qvg {C:ZC K} (ok:CfgOk X sz C) {depth ng:Nat} (a:ArgOk qhs X sz P cd depth) {base:Nat} {M:Nat->Prop} (b:∀ n,¬ M n):∀ {ls:List Leaf4} {cs:List Value},cs.length=ls.length->
  (∀ (i:Nat) x,cs[i]? = some x->∃ u,Cell.okWide P W .any base u x)->(∀ (i:Nat) leaf x,ls[i]? = some leaf->cs[i]? = some x->qet enc P W cd leaf x)->
  ∃ (ps:List (PV K)) (vs:List V),qri qhs ls ps/\ql X sz (wd0 (qd4 W ng) M C.codec) ps vs/\Go.E2.qn (qga W) W vs cs
 | [],[],_,_,_=>⟨[],[],rfl,.nil,by simp [Go.E2.qn]⟩
 | [],_::_,h,_,_=>by simp at h
 | _::_,[],h,_,_=>by simp at h
 | l::ls,x::cs,e,c,d=>by
  obtain ⟨u,f⟩:=c 0 x rfl;obtain ⟨p,v,g,j,k⟩:=q0y (ng:=ng) ok a b f (d 0 l x rfl rfl);obtain ⟨ps,vs,m,o,q⟩:=qvg (ng:=ng) ok a b (cs:=cs) (ls:=ls) (by simpa using e) (λi y r=>c (i+1) y (by simpa using r)) λi leaf y s t=>d (i+1) leaf y (by simpa using s) (by simpa using t);exact ⟨p::ps,v::vs,⟨p,ps,rfl,g,m⟩,.cons j o,Go.E2.qn.cons k q⟩
theorem zhb {C:ZC K} (ok:CfgOk X sz C) {depth ng:Nat} (g:ArgOk qhs X sz P cd depth) {base:Nat} {M:Nat->Prop} (i:∀ n,¬ M n) {t:TypeId} {v:Value} {d:DataW Hd} {ps:List MemPlace} {leaf:Leaf4}
  (f:(match P.underlying t with | some (.struct _) | some (.array _ _)=>false | _=>true)=true) (j:q1x P cd depth t=some [leaf]) (b:Value.okWide P W .any base t v) (k:DataW.Trod enc P W 0 (λ_=>true) true t v d ps) :
  ∃ (p:PV K) (u:V),q4j qhs leaf p/\Rep X sz (wd0 (qd4 W ng) M C.codec) p u/\Go.E2.Rel (qga W) W u v:=by
 obtain ⟨n,l⟩:=k;obtain ⟨o,m⟩:=qpj depth l j;have a:Cell.okWide P W .any base t v:=by
  unfold Value.okWide at b;split at b
  .rename_i h;simp [h] at f
  .rename_i h;simp [h] at f
  .exact b
 have c:v.cells.toList=[v]:=by
  cases v with
  | agg cs=>
   exfalso;unfold Cell.okWide at a;split at a<;>first | (rename_i e;cases e;done) | skip
   unfold Cell.ok at a;split at a<;>first | (rename_i e;cases e;done) | exact a
  | _=>rfl
 exact q0y ok g i a (m 0 leaf v rfl (by rw [c];rfl))
theorem q7o {C:ZC K} (ok:CfgOk X sz C) {depth ng:Nat} (h:ArgOk qhs X sz P cd depth) {base:Nat} {M:Nat->Prop} (j:∀ n,¬ M n) {t:TypeId} {v:Value} {d:DataW Hd} {ps:List MemPlace} {ls:List Leaf4} {k:Array Field}
  (l:P.underlying t=some (.struct k)) (m:q1x P cd depth t=some ls) (a:Value.okWide P W .any base t v) (o:DataW.Trod enc P W 0 (λ_=>true) true t v d ps) :
  ∃ (ps:List (PV K)) (u:V),qri qhs ls ps/\Rep X sz (wd0 (qd4 W ng) M C.codec) (.agg ps) u/\Go.E2.Rel (qga W) W u v:=by
 obtain ⟨n,p⟩:=o;obtain ⟨e,f⟩:=qpj depth p m;unfold Value.okWide at a;rw [l] at a;obtain ⟨cs,rfl,_,z,_,_,b⟩:=a;have c:(Value.agg cs).cells.toList=cs.toList:=rfl;rw [c] at e f;obtain ⟨q,vs,r,g,s⟩:=qvg (ng:=ng) ok h j e (λi x w=>by
  obtain ⟨u,_,y⟩:=b i x (by simpa using w);exact ⟨u,y⟩) f
 exact ⟨q,.agg vs,r,.agg g.1 g.2,by simp only [Go.E2.Rel];exact ⟨cs,rfl,s⟩⟩
theorem zac {p:MemPlace} (h:Go.Good W p):p.block<W.heap.size:=by
 cases p with
 | cell b off=>
  obtain ⟨v,a,_⟩:=h;simp only [World.cell?] at a;split at a
  .rename_i c;exact qjd c
  .cases a
 | map b=>
  obtain ⟨e,d,c⟩:=h;exact qjd c
theorem qzd {w':World} {t:TypeId} {v:Value} {d:DataW Hd} {ps:List MemPlace} (f:laidOutB P=true) (c:P.readableRec t=true) (e:t<P.types.size) (h:DataW.Trod enc P W 0 (λ_=>true) true t v d ps) (k:∀ b,b<W.heap.size->w'.heap[b]? = W.heap[b]?)
  (sp:Nat->Bool) (i:∀ b,b<W.heap.size->sp b=true):DataW.Trod enc P w' 0 sp true t v d ps:=by
 obtain ⟨n,l⟩:=h;have K:=kids_book f c;have a:=DataW.trod_good K (λh=>by cases h) n t _ _ ⟨e,book_self t⟩ l;refine ⟨n,DataW.trod_stays K (book_sized c) (λh=>by cases h) ⟨e,book_self t⟩ l (λp j=>?_) (λp j=>i _ ?_)⟩
 .have g:p.block<W.heap.size:=zac (a p j);cases p with
  | cell b off=>simp only [World.sameAt,World.cell?,k b g]
  | map b=>exact k b g
 .exact zac (a p j)
end
end Go.E3
/- E3: (*strings.Builder).String, BY ITS TEXT: a check of the body, and what the body does. -/
namespace Go.E3
open Go Go.E2
section
variable {E:Env} {fn:FuncId} {round:Option Nat} {all:Array Oper} {b:Array Nat} {i:Nat} {l:List Oper} {done:List Done} {o:Oper} {fr:Fr} {H:Heap} {Q:Ex->Fr->Heap->Prop} {B:Nat}
def qkv (B i:Nat) (done:List Done):Prop:=E2.Calm B done/\∀ d ∈ done,d.i<i
theorem q0a:qkv B 0 []:=⟨zd2,λd h=>by cases h⟩
theorem qw8 {fp:FP} {lo hi:Nat} {dels:List Nat} (h:qkv B i done) (b:fp=.none∨∃ l,fp=.reads l) (c:B<=lo):qkv B (i+1) (⟨i,fp,lo,hi,dels⟩::done):=by
 refine ⟨zb1 b c h.1,λd a=>?_⟩;rcases zD.1 a with rfl | a
 .simp_all
 .exact Nat.lt_succ_of_lt (h.2 d a)
theorem q0z {t:Nat} (h:Operand.tmp t ∈ o.op.operands.toList):t ∈ o.looksAt all:=by
 exact List.mem_append_left _ (List.mem_filterMap.2 ⟨_,h,rfl⟩)
theorem zj8 {v:V} {d:Nat} (e:qkv B i done) (f:B<=H.next) (g:js E o.op=false) (h:o.guard=none) (j:o.dst=some d) (m:d<fr.n)
  (c:∀ fr' H',(∀ t,Operand.tmp t ∈ o.op.operands.toList->fr'.tmp t=fr.tmp t)->zb E o fr' H'=some (.val v,H'))
  (k:∀ a fr',qkv B (i+1) a->Upd fr d v fr'->WpD E all b (i+1) l a fr' H Q):WpD E all b i (o::l) done fr H Q:=by
 refine qdd (fp:=.none) (out:=.val v) (K:=zw H .none _) (qdk h) (by simp only [qfe,g,Bool.not_false,zO]) (by simp) (qw9 e.1 (.inl rfl)) (c _ _ λt p=>qdi (q0z p)) (.inl rfl) (zN _) ?_;rw [ql8,j];exact k _ _ (qw8 e (.inl rfl) f) (qpa m)
theorem zra {t:TypeId} {ti:TI} {s d nm g off lim:Nat} {v:V} (c:qkv B i done) (q:B<=H.next) (e:o.op=.load t (.tmp s)) (r:E.types t=some ti) (p:fr.tmp s=some (.ptr nm g off lim)) (f:nm<B) (j:o.guard=none) (u:o.dst=some d) (w:d<fr.n) (h:jr H ti (.ptr nm g off lim)=some v)
  (k:∀ a fr',qkv B (i+1) a->Upd fr d v fr'->WpD E all b (i+1) l a fr' H Q):WpD E all b i (o::l) done fr H Q:=by
 have m:qfe E o fr=.reads [nm]:=by
  simp only [qfe,e,js,Bool.not_true,zQ,qar,Op.operands,List.flatMap_cons,List.flatMap_nil,qpp,p,V.nm,zJ]
 have x:s ∈ o.looksAt all:=by simp [Oper.looksAt,e,Op.operands]
 refine qdd (fp:=.reads [nm]) (out:=.val v) (K:=zw H (.reads [nm]) ((zj b i done).flatMap Done.names)) (qdk j) m (by simp) (qw9 c.1 (.inr ⟨_,rfl⟩)) ?_ (.inl rfl) (zN _) ?_
 .have j:=qho (H:=H) (l:=[nm]) (dels:=(zj b i done).flatMap Done.names) (List.mem_singleton.2 rfl) (by omega) (zb2 c.1 f);have y:jr (zw H (.reads [nm]) ((zj b i done).flatMap Done.names)) ti (.ptr nm g off lim)=some v:=by
   rw [<-h];simp only [jr,zq,j]
  simp only [zb,e,r,zB,opd,qdi x,p,y,zH]
 .rw [qju,u];exact k _ _ (qw8 c (.inr ⟨_,rfl⟩) q) (qpa w)
theorem q74 (c:qkv B i done) (a:((List.range i).all λj=>(b.getD i 0).testBit j)=true):zj b i done=[]:=by
 unfold zj;rw [List.filter_eq_nil_iff];intro d e;rw [List.all_eq_true] at a;rw [a d.i (List.mem_range.2 (c.2 d e))];simp
end
theorem qfu {H:Heap} {ti:TI} {nm off lim:Nat} {vs:List V} {e:TypeId} {ex:Bool} {x:V} (d:ti.size=1) (f:ti.isAgg=false) (g:H.get nm=some (.row vs e 0 0 0 ex)) (n:off+2<=lim) (h:lim<=vs.length) (c:vs[off+1]? = some x) (b:isHole x=false):jr H ti (.ptr nm 0 (off+1) lim)=some x:=by
 have i:Nat.ble (off+1+1) lim=true:=by rw [Nat.ble_eq];omega
 have j:Nat.ble lim vs.length=true:=by rw [Nat.ble_eq];exact h
 have k:(vs.drop (off+1)).take 1=[x]:=by
  have a:off+1<vs.length:=by omega
  rw [List.drop_eq_getElem_cons a];simp only [List.take_succ_cons,List.take_zero,List.cons.injEq,and_true];rw [List.getElem?_eq_getElem a] at c;exact Option.some.inj c
 have l:qef [x]=some [x]:=qhl λv m=>by
  rw [List.mem_singleton.1 m];exact b
 simp only [jr,zq,g,d,i,j,k,l,f,Nat.ble_eq,zN,Nat.ble,Bool.and_self,Bool.true_and,zO,zQ,zB]
section
variable {E:Env} {F tB tS tQ tI tU:Nat}
end
theorem qzx {P:Program} {d:Type} {enc:TypeId×Value->d} {g:Func} {s:Go.ChangeSpec} {apart fresh handsOn:Bool} {W w':World} {args:Array Value} {ds gs:List (DataW d)} {before:List MemPlace} {t:TypeId}
  (j:DataW.Whole enc P g.params.toList s.vars apart W args.toList ds gs before) (k:s.vars=[]) (m:g.resultTypes = #[t]) (hu:P.underlying t=some .bool)
  (c:s.fn d ds = {results:=[.lit (.bool true)],args:=ds}) (a:∃ e,DataW.TrodAll enc P w' 0 (λb=>decide (b<W.heap.size)) true g.params.toList args.toList ds e) (n:∀ f,W.keptBut w' f) :
  s.post enc P g apart fresh handsOn false W args (.bool true) w':=by
 have i:=j;obtain ⟨p,q,r,l,rfl,_,_⟩:=j;rw [k] at l;obtain ⟨rfl,rfl⟩:=Go.ChangeShapes.trodVars_none l;obtain ⟨e,o⟩:=a;refine ⟨ds,[],p++[],[],e,[],i,?_,?_,?_,n _,λh=>by cases h⟩
 .rw [m,zJ,c];exact Go.ChangeShapes.trodAll_mk1 (Go.RowKit.shut_bool hu true)
 .simp_all
 .rw [k,zJ,c];rfl
end Go.E3
/- E3: A CLOSED CALL that looks at listed variables, as a contract. -/
namespace Go.E2
open Go
def Fact.qxe (F:Fact):Bool:=
 F.args.isEmpty&&(F.pre.all λx=>match assoc (F.pre.map λx=>(x.1,x.1)) x.1,q30 (assoc (F.pre.map λx=>(x.1,x.1))) x.2 with
  | some k,some o=>Nat.beq k x.1&&q5c o x.2
  | _,_=>false)&&qoi (F.pre.map λx=>(x.1,x.1))&&(F.pre.all λx=>Nat.blt x.1 F.next)&&Nat.beq F.ro F.next&&qlq F.ret ((qgf (λ_=>none) F.ret).getD (.tuple [.nilp]))
theorem zjy {F:Fact} {H:Heap} (e:F.qxe=true) (h:H.qp=F.qp) (f:∀ x ∈ F.pre,H.get x.1=some x.2/\x.1<H.next):F.q66 [] H=some (.ret F.ret,H):=by
 simp only [Fact.qxe,zA] at e;obtain ⟨⟨⟨⟨⟨i,j⟩,c3⟩,c4⟩,c5⟩,c6⟩:=e;have l:F.args=[]:=List.isEmpty_iff.1 i;have a:F.fits (F.pre.map λx=>(x.1,x.1)) [] H=true:=by
  simp only [Fact.fits,zA];refine ⟨⟨⟨⟨?_,?_⟩,?_⟩,c3⟩,?_⟩
  .rw [l];rfl
  .rw [h];exact Nat.beq_refl _
  .unfold q23;rw [List.all_eq_true];intro x b;have:=List.all_eq_true.1 j x b;split at this
   .rename_i k o c d;simp only [zA] at this;have m:=zE this.1;subst m;simp only [c,d,(f x b).1];exact this.2
   .cases this
  .rw [List.all_eq_true];intro x b;obtain ⟨y,g,rfl⟩:=List.mem_map.1 b;have c:=List.all_eq_true.1 c4 y g;have d:Nat.blt y.1 H.next=true:=by rw [Nat.blt_eq];exact (f y g).2
   have n:Nat.ble F.ro y.1=false:=by
    rw [<-Bool.not_eq_true,Nat.ble_eq,zE c5];rw [Nat.blt_eq] at c;omega
   simp only [c,d,n,Nat.beq_refl,Bool.and_true,Bool.or_true,Bool.not_false,Bool.true_or]
 simp only [Fact.q66,a,c5,c6,Bool.and_true,zO]
end Go.E2
namespace Go.E3
open Go Go.E2
theorem qp3 {α:Type}:∀ {l:List (Nat×α)},distinct (l.map (·.1))=true->∀ {x:Nat×α},x ∈ l->look l x.1=some x.2
 | [],_,x,a=>by cases a
 | y::l,h,x,a=>by
  simp only [List.map_cons,distinct,zA,Bool.not_eq_true'] at h;simp only [look,cond_eq_ite,Nat.beq_eq];rcases zD.1 a with rfl | a
  .rw [zT rfl]
  .rw [zF]
   .exact qp3 h.2 a
   .intro c;have b:=h.1;rw [<-Bool.not_eq_true,List.any_eq_true] at b;exact b ⟨x.1,List.mem_map.2 ⟨x,a,rfl⟩,by rw [c];exact Nat.beq_refl _⟩
end Go.E3
/- E3: ARGUMENTS WHOSE ELEMENTS HOLD SLICES, to whatever depth. The element size of a slice that lies in a cell is told by a function F of the cells where it points. -/
namespace Go.E3
open Go Go.E2
variable {K:Nat->Type}
section
variable {Hd:Type} {enc:TypeId×Value->Hd} {P:Program} {W:World} {F:Array Value->Nat->Nat} {cd:TypeId->Option Nat} {qhs:∀ c,K c->Prop} {X:Codecs K} {sz:Nat->Nat}
end
end Go.E3
/- E3: PANICS, FOR A FUNCTION THAT RECOVERS THEM: code that may end in a panic as code that is left by an exit; frames that keep a deferred call. -/
namespace Go.E3
open Go Go.E2
def qxz (n:Nat) (l:List Oper):Bool:=l.all λq=>match q.guard with
 | none=>true
 | some (j,_)=>Nat.blt j n
def q3t (ops:Array Oper):Option (List Oper×Nat):=
 match ops.toList.reverse with
 | o::l=>match o.op with
  | .panic (.tmp t)=>if o.guard.isNone&&qxz l.length l then some (l.reverse,t) else none
  | _=>none
 | []=>none
def unp:Code->Code
 | .region id ops false=>match q3t ops with
  | some (l,t)=>.seq (.region id l.toArray false) (.exit (1000000+t))
  | none=>.region id ops false
 | .seq a b=>.seq (unp a) (unp b)
 | .cond c a b=>.cond c (unp a) (unp b)
 | .block id a=>.block id (unp a)
 | .loop a=>.loop (unp a)
 | .scope a=>.scope (unp a)
 | c=>c
def qag:Code->Bool
 | .exit id=>Nat.blt id 1000000
 | .seq a b=>qag a&&qag b
 | .cond _ a b=>qag a&&qag b
 | .block id a=>Nat.blt id 1000000&&qag a
 | .loop a=>qag a
 | .scope a=>qag a
 | .rangeFunc ..=>false
 | _=>true
section
variable {E:Env} {call:E2.Call} {fn:FuncId} {round:Option Nat} {fuel:Nat} {nd:Bool}
theorem q6j {ops:Array Oper} {l:List Oper} {t:Nat} (h:q3t ops=some (l,t)):∃ o,ops.toList=l++[o]/\o.op=.panic (.tmp t)/\o.guard=none/\∀ q ∈ l,∀ fr,ky q ops fr=ky q l.toArray fr:=by
 unfold q3t at h;split at h
 .rename_i o b f;split at h
  .rename_i m g;cases c:(o.guard.isNone&&qxz b.length b) with
   | false=>simp_all
   | true=>
    rw [c] at h;obtain ⟨rfl,rfl⟩:=h;simp only [zA,Option.isNone_iff_eq_none] at c;have a:ops.toList=b.reverse++[o]:=by
     have:=congrArg List.reverse f;rw [List.reverse_reverse,List.reverse_cons] at this;exact this
    refine ⟨o,a,g,c.1,λq i fr=>?_⟩;have d:=List.all_eq_true.1 c.2 q (List.mem_reverse.1 i);unfold ky;split
    .rfl
    .rename_i j e k;rw [k] at d;have:ops[j]? = (b.reverse.toArray)[j]?:=by
      rw [<-Array.getElem?_toList,a,List.getElem?_append_left (by simpa using d),List.getElem?_toArray]
     rw [this]
  .cases h
 .cases h
theorem qyx {all all':Array Oper}:∀ {l:List Oper} {fr:Fr} {H:Heap},(∀ o ∈ l,∀ fr,ky o all fr=ky o all' fr)->ku E call nd all l fr H=ku E call nd all' l fr H
 | [],_,_,_=>rfl
 | o::l,fr,H,h=>by
  have a:=h o zC;have b:∀ fr H,ku E call nd all l fr H=ku E call nd all' l fr H:=λfr H=>qyx λq c=>h q (zG _ c);simp only [ku,j8,a,b]
theorem qor {all:Array Oper} (o:Oper):∀ {l:List Oper} {fr:Fr} {H:Heap},ku E call nd all (l++[o]) fr H=match ku E call nd all l fr H with
   | some (.normal,fr',H')=>ku E call nd all [o] fr' H'
   | r=>r
 | [],_,_=>rfl
 | q::l,fr,H=>by
  have a:∀ fr H,_:=λfr H=>qor (all:=all) o (l:=l) (fr:=fr) (H:=H);rw [List.cons_append];unfold ku;split
  .rename_i c e;cases ky q all fr with
   | none=>rfl
   | some b=>cases b with
    | false=>exact a _ _
    | true=>cases nd with
     | false=>rfl
     | true=>
      cases qhr fr H c with
      | none=>rfl
      | some d=>exact a _ _
  .cases j8 E call all q fr H with
   | none=>rfl
   | some r=>
    obtain ⟨r,H'⟩:=r;cases r with
    | ret v=>exact a _ _
    | panic f=>rfl
theorem qpd {all:Array Oper}:∀ {l:List Oper} {fr:Fr} {H:Heap} {ex:Ex} {fr':Fr} {H':Heap},ku E call nd all l fr H=some (ex,fr',H')->∀ id,ex≠.exit id
 | [],_,_,ex,_,_,h=>by
  simp only [ku,zS,zP] at h;obtain ⟨rfl,_⟩:=h;simp
 | q::l,fr,H,ex,fr',H',h=>by
  have e:∀ fr H,_:=λfr H=>qpd (all:=all) (l:=l) (fr:=fr) (H:=H) (ex:=ex) (fr':=fr') (H':=H');unfold ku at h;split at h
  .rename_i c g;cases a:ky q all fr with
   | none=>rw [a] at h;cases h
   | some b=>cases b with
    | false=>rw [a] at h;exact e _ _ h
    | true=>cases nd with
     | false=>rw [a] at h;cases h
     | true=>
      rw [a] at h;simp only [zO,↓reduceIte] at h;obtain ⟨d,_,h⟩:=zI.1 h;exact e _ _ h
  .cases f:j8 E call all q fr H with
   | none=>rw [f] at h;cases h
   | some r=>
    obtain ⟨r,H1⟩:=r;rw [f] at h;cases r with
    | ret v=>exact e _ _ h
    | panic i=>cases h;simp
theorem qku:∀ {c:Code} {fr:Fr} {H:Heap} {ex:Ex} {fr':Fr} {H':Heap},qag c=true->qh E call fn round fuel (unp c) fr H=some (ex,fr',H')->
  ((∀ id,ex=.exit id->id<1000000)/\qh E call fn round fuel c fr H=some (ex,fr',H'))∨
  ∃ t,ex=.exit (1000000+t)/\∀ ty x,fr'.tmp t=some (.iface ty x)->qh E call fn round fuel c fr H=some (.panic [⟨.iface ty x,false,false⟩],fr',H')
 | .skip,fr,H,ex,fr',H',d,h=>by cases h;exact .inl ⟨by simp,rfl⟩
 | .label _,fr,H,ex,fr',H',d,h=>by cases h;exact .inl ⟨by simp,rfl⟩
 | .exit id,fr,H,ex,fr',H',d,h=>by
  cases h;exact .inl ⟨λv m=>by cases m;exact Eq.mp Nat.blt_eq d,rfl⟩
 | .goto _,fr,H,ex,fr',H',d,h=>by cases h;exact .inl ⟨by simp,rfl⟩
 | .ret,fr,H,ex,fr',H',d,h=>by cases h;exact .inl ⟨by simp,rfl⟩
 | .refuse _,fr,H,ex,fr',H',d,h=>by cases h
 | .rangeFunc ..,fr,H,ex,fr',H',d,h=>by cases d
 | .seq a b,fr,H,ex,fr',H',d,h=>by
  simp only [qag,zA] at d;simp only [unp,qh] at h;cases f:qh E call fn round fuel (unp a) fr H with
  | none=>rw [f] at h;cases h
  | some r=>
   obtain ⟨j,p,H1⟩:=r;rw [f] at h;rcases qku d.1 f with ⟨k,e⟩ | ⟨t,rfl,e⟩
   .cases j with
    | normal=>
     rcases qku d.2 h with ⟨u,g⟩ | ⟨t,rfl,g⟩
     .exact .inl ⟨u,by simp only [qh,e,g]⟩
     .exact .inr ⟨t,rfl,λty x i=>by simp only [qh,e];exact g ty x i⟩
    | _=>cases h;exact .inl ⟨k,by simp only [qh,e]⟩
   .cases h;exact .inr ⟨t,rfl,λty x i=>by simp only [qh,e ty x i]⟩
 | .cond c a b,fr,H,ex,fr',H',d,h=>by
  simp only [qag,zA] at d;simp only [unp,qh] at h;split at h
  .rename_i w;rcases qku d.1 h with ⟨u,g⟩ | ⟨t,rfl,g⟩
   .exact .inl ⟨u,by simp only [qh,w,g]⟩
   .exact .inr ⟨t,rfl,λty x i=>by simp only [qh,w];exact g ty x i⟩
  .rename_i w;rcases qku d.2 h with ⟨u,g⟩ | ⟨t,rfl,g⟩
   .exact .inl ⟨u,by simp only [qh,w,g]⟩
   .exact .inr ⟨t,rfl,λty x i=>by simp only [qh,w];exact g ty x i⟩
  .cases h
 | .block id a,fr,H,ex,fr',H',d,h=>by
  simp only [qag,zA,Nat.blt_eq] at d;simp only [unp,qh] at h;cases f:qh E call fn round fuel (unp a) fr H with
  | none=>rw [f] at h;cases h
  | some r=>
   obtain ⟨j,p,H1⟩:=r;rw [f] at h;rcases qku d.2 f with ⟨k,e⟩ | ⟨t,rfl,e⟩
   .refine .inl ⟨?_,by simp only [qh,e];exact h⟩;cases j with
    | exit v=>
     simp only at h;cases A:Nat.beq v id with
     | true=>rw [A] at h;cases h;simp
     | false=>rw [A] at h;cases h;exact k
    | _=>cases h;simp
   .simp only at h;have A:Nat.beq (1000000+t) id=false:=by rw [<-Bool.not_eq_true,Nat.beq_eq];omega
    rw [A] at h;cases h;exact .inr ⟨t,rfl,λty x i=>by simp only [qh,e ty x i]⟩
 | .scope a,fr,H,ex,fr',H',d,h=>by
  simp only [qag] at d;simp only [unp,qh] at h;cases f:qh E call fn round fuel (unp a) fr H with
  | none=>rw [f] at h;cases h
  | some r=>
   obtain ⟨j,p,H1⟩:=r;rw [f] at h;rcases qku d f with ⟨k,e⟩ | ⟨t,rfl,e⟩
   .refine .inl ⟨?_,by simp only [qh,e];exact h⟩;cases j<;>cases h<;>first | exact k | simp
   .cases h;exact .inr ⟨t,rfl,λty x i=>by simp only [qh,e ty x i]⟩
 | .region id ops y,fr,H,ex,fr',H',d,h=>by
  cases y with
  | true=>
   refine .inl ⟨λid m=>?_,h⟩;simp only [unp,qh,zO,↓reduceIte,zM] at h;obtain ⟨r,_,h⟩:=h;cases h;cases m
  | false=>
   simp only [unp] at h;split at h
   .rename_i l t F;obtain ⟨o,k,e,u,g⟩:=q6j F;simp only [qh,zQ,Bool.false_eq_true,↓reduceIte,Bool.false_eq_true] at h ⊢;rw [k,qor];have j:ku E call round.isNone ops l fr H=ku E call round.isNone l.toArray l fr H:=qyx λq G fr=>g q G fr;rw [j];cases B:ku E call round.isNone l.toArray l fr H with
    | none=>rw [B] at h;cases h
    | some r=>
     obtain ⟨I,J,K⟩:=r;rw [B] at h;cases I with
     | normal=>
      cases h;refine .inr ⟨t,rfl,λty x i=>?_⟩;have C:opd fr' H' (.tmp t)=some (.iface ty x):=i;simp only [ku,e,j8,ky,u,zb,C,zB]
     | _=>cases h;exact .inl ⟨λid m=>absurd m (qpd B id),rfl⟩
   .refine .inl ⟨λid m=>?_,h⟩;simp only [qh,zQ,Bool.false_eq_true,↓reduceIte,Bool.false_eq_true] at h;exact absurd m (qpd h id)
 | .loop a,fr,H,ex,fr',H',d,h=>by
  simp only [qag] at d;simp only [unp,qh] at h ⊢;have D:∀ (n:Nat) (z:Ex) (fr:Fr) (H:Heap),iter (λ(s:Ex×Fr×Heap)=>match qh E call fn round fuel (unp a) s.2.1 s.2.2 with
    | some (.normal,fr',H')=>some (true,.normal,fr',H')
    | some r=>some (false,r)
    | none=>none) n (z,fr,H)=some (ex,fr',H')->
    ((∀ id,ex=.exit id->id<1000000)/\iter (λ(s:Ex×Fr×Heap)=>match qh E call fn round fuel a s.2.1 s.2.2 with
    | some (.normal,fr',H')=>some (true,.normal,fr',H')
    | some r=>some (false,r)
    | none=>none) n (z,fr,H)=some (ex,fr',H'))∨
    ∃ t,ex=.exit (1000000+t)/\∀ ty x,fr'.tmp t=some (.iface ty x)->iter (λ(s:Ex×Fr×Heap)=>match qh E call fn round fuel a s.2.1 s.2.2 with
    | some (.normal,fr',H')=>some (true,.normal,fr',H')
    | some r=>some (false,r)
    | none=>none) n (z,fr,H)=some (.panic [⟨.iface ty x,false,false⟩],fr',H'):=by
   intro n
   induction n with
   | zero=>intro z fr H h;cases h
   | succ n L=>
    intro z fr H h;simp only [iter] at h ⊢;cases f:qh E call fn round fuel (unp a) fr H with
    | none=>simp_all
    | some r=>
     obtain ⟨j,p,H1⟩:=r;rw [f] at h;rcases qku d f with ⟨k,e⟩ | ⟨t,rfl,e⟩
     .grind
     .grind
  exact D _ _ _ _ h
theorem zrc {c:Code} {fr:Fr} {H:Heap} {Q b:Ex->Fr->Heap->Prop} (d:qag c=true) (h:Wp E fn round (unp c) fr H Q) (n:∀ ex fr' H',(∀ id,ex=.exit id->id<1000000)->Q ex fr' H'->b ex fr' H')
  (o:∀ t fr' H',Q (.exit (1000000+t)) fr' H'->∃ ty x,fr'.tmp t=some (.iface ty x)/\b (.panic [⟨.iface ty x,false,false⟩]) fr' H'):Wp E fn round c fr H b:=by
 obtain ⟨⟨ex,fr',H'⟩,⟨e,f⟩,i⟩:=h;by_cases p:∃ t,ex=.exit (1000000+t)
 .obtain ⟨t,rfl⟩:=p;obtain ⟨ty,x,s,q⟩:=o t fr' H' i;refine ⟨(_,fr',H'),⟨e,λk a=>?_⟩,q⟩;rcases qku d (f k a) with ⟨j,_⟩ | ⟨l,g,m⟩
  .grind
  .simp_all
 .refine ⟨(ex,fr',H'),⟨e,λk a=>?_⟩,n ex fr' H' (λid g=>?_) i⟩
  .rcases qku d (f k a) with ⟨_,m⟩ | ⟨l,g,_⟩
   .exact m
   .simp_all
  .rcases qku d (f e (zN _)) with ⟨j,_⟩ | ⟨l,r,_⟩
   .exact j id g
   .grind
end
end Go.E3
/- E3: CALLS THAT MAY END IN A PANIC; frames that keep a deferred call beneath their marks; a deferred function that recovers. -/
namespace Go.E3
open Go Go.E2
def qz5 (E:Env) (t:Tgt) (args:List V) (H:Heap) (Q a:V->Heap->Prop):Prop:=
 ∃ y H',zki E t args H (y,H')/\((∃ v,y=.ret v/\Q v H')∨∃ v,y=.panic [⟨v,false,false⟩]/\a v H')
section
variable {E:Env} {fn:FuncId} {round:Option Nat}
theorem q7x {f:Nat} {fi:FI} {c:Code} {args:List V} {H:Heap} {Q l:V->Heap->Prop} (m:E.spec f=none) (o:E.funcs f=some fi) (p:fi.body=some c)
  (h:Wp E f none c {tmps:=qbm args,n:=max args.length fi.ntmps,defers:=[]} H λe fr' H'=>∃ a,jh fr'.defers H'=some a/\
    (((e=.normal∨e=.ret)/\∃ vs,zv E fr' a fi.results=some vs/\Q (oneOf vs) a)∨∃ v,e=.panic [⟨v,false,false⟩]/\l v a)):qz5 E (.func f) args H Q l:=by
 obtain ⟨⟨e,fr',H'⟩,⟨q,r⟩,a,s,b⟩:=h;rcases b with ⟨b,vs,t,d⟩ | ⟨v,rfl,d⟩
 .refine ⟨.ret (oneOf vs),a,⟨q+1,λk u=>?_⟩,.inl ⟨_,rfl,d⟩⟩;obtain ⟨k,rfl⟩:∃ g,k=g+1:=⟨k-1,by omega⟩;have i:qhx E (ja E k) (k+1) (e,fr',H')=some (.returning,fr',a):=by
   have j:=qjw (E:=E) (call:=ja E k) (fuel:=k+1) (md:=.returning) s;rcases b with rfl | rfl<;>simp [qhx,j]
  simp only [ja,m,o,p,zB,r k (by omega),i,qgb,t,zH]
 .refine ⟨.panic [⟨v,false,false⟩],a,⟨q+1,λk u=>?_⟩,.inr ⟨_,rfl,d⟩⟩;obtain ⟨k,rfl⟩:∃ g,k=g+1:=⟨k-1,by omega⟩;have j:=qjw (E:=E) (call:=ja E k) (fuel:=k+1) (md:=.panicking v) s;simp only [ja,m,o,p,zB,r k (by omega),qhx,j,zH,qgb]
theorem zc7 {f:Operand} {params:Array Tmp} {a b:Code} {fr:Fr} {H H1:Heap} {Q:Ex->Fr->Heap->Prop} {g:Nat} {l m:List V} {mk:List Dfr} {d:Nat}
  (o:opd fr H f=some (.func (.func g) l m)) (p:qgc E g=true) (he:qj2 round H=some (mk,H1,d))
  (h:qz5 E (.func g) (l++[.func (.yield H1.next) [] []]++m) (H1.new (.loop .ready none fr.tmps fr.n params.toList a b d)) (λ_ c=>∃ ex e,qab c H1.next=some (ex,e)/\Q ex {fr with defers:=mk++fr.defers} e)
    (λv c=>Q (.panic [⟨v,false,false⟩]) {fr with defers:=mk++fr.defers} c)) :
  Wp E fn round (.rangeFunc f params a b) fr H Q:=by
 obtain ⟨y,c,⟨q,r⟩,h⟩:=h;rcases h with ⟨v,rfl,ex,e,s,i⟩ | ⟨v,rfl,i⟩
 .refine ⟨(ex,{fr with defers:=mk++fr.defers},e),⟨q,λk j=>?_⟩,i⟩;simp only [qh,he,zB,o,qdr,p,zO,↓reduceIte,r k j,s,zH]
 .refine ⟨(.panic [⟨v,false,false⟩],{fr with defers:=mk++fr.defers},c),⟨q,λk j=>?_⟩,i⟩;simp only [qh,he,zB,o,qdr,p,zO,↓reduceIte,r k j]
def qbv (fr:Fr) (T:List Dfr):Fr:=⟨fr.tmps,fr.n,fr.defers++T⟩
theorem qyl (t:Tree V) (n:Nat) (d a:List Dfr) (H:Heap) (x:Operand):opd ⟨t,n,d⟩ H x=opd ⟨t,n,a⟩ H x:=by cases x<;>rfl
theorem q3s (t:Tree V) (n:Nat) (d a:List Dfr) (H:Heap):∀ l:List Operand,qay ⟨t,n,d⟩ H l=qay ⟨t,n,a⟩ H l
 | []=>rfl
 | x::l=>by simp only [qay,qyl t n d a H x,q3s t n d a H l]
theorem zi9 (t:Tree V) (n:Nat) (d a:List Dfr) (H:Heap) (x:Option Operand):qhm ⟨t,n,d⟩ H x=qhm ⟨t,n,a⟩ H x:=by
 cases x with
 | none=>rfl
 | some x=>rfl
theorem zh1 (o:Oper) (t:Tree V) (n:Nat) (d a:List Dfr) (H:Heap):zb E o ⟨t,n,d⟩ H=zb E o ⟨t,n,a⟩ H:=by
 unfold zb;simp only [qyl t n d a H,q3s t n d a H,zi9 t n d a H]
theorem q1p {call:E2.Call} (all:Array Oper) (o:Oper) (t:Tree V) (n:Nat) (d a:List Dfr) (H:Heap):j8 E call all o ⟨t,n,d⟩ H=j8 E call all o ⟨t,n,a⟩ H:=by
 have b:ky o all ⟨t,n,d⟩=ky o all ⟨t,n,a⟩:=rfl;simp only [j8,b,zh1 o t n d a H]
theorem zb3 (c:Go.Call) (t:Tree V) (n:Nat) (d a:List Dfr) (H:Heap):qhr ⟨t,n,d⟩ H c=qhr ⟨t,n,a⟩ H c:=by
 simp only [qhr,qyl t n d a H,q3s t n d a H]
theorem qol (fr:Fr) (T:List Dfr) (dst:Option Tmp) (v:V):(qbv fr T).put dst v=qbv (fr.put dst v) T:=by
 obtain ⟨t,n,d⟩:=fr;cases dst with
 | none=>rfl
 | some i=>simp only [qbv,Fr.put];cases Nat.blt i n<;>rfl
def qvy (T:List Dfr) (x:Ex×Fr×Heap):Ex×Fr×Heap:=(x.1,qbv x.2.1 T,x.2.2)
theorem qvs {call:E2.Call} {nd:Bool} {all:Array Oper} (T:List Dfr):∀ {l:List Oper} {fr:Fr} {H:Heap},ku E call nd all l (qbv fr T) H=(ku E call nd all l fr H).map (qvy T)
 | [],_,_=>rfl
 | o::l,fr,H=>by
  have a:∀ fr H,_:=λfr H=>qvs (call:=call) (nd:=nd) (all:=all) T (l:=l) (fr:=fr) (H:=H);unfold ku;have e:ky o all (qbv fr T)=ky o all fr:=rfl;split
  .rename_i c i;rw [e];cases ky o all fr with
   | none=>rfl
   | some b=>cases b with
    | false=>simp only;rw [qol];exact a _ _
    | true=>cases nd with
     | false=>rfl
     | true=>
      have f:qhr (qbv fr T) H c=qhr fr H c:=zb3 ..;simp only [zO,↓reduceIte,f];cases qhr fr H c with
      | none=>rfl
      | some d=>
       have g:(qbv fr T).push d=qbv (fr.push d) T:=rfl;simp only [zB,g,qol];exact a _ _
  .have h:j8 E call all o (qbv fr T) H=j8 E call all o fr H:=q1p ..;rw [h];cases j8 E call all o fr H with
   | none=>rfl
   | some r=>
    obtain ⟨r,H'⟩:=r;cases r with
    | ret v=>simp only;rw [qol];exact a _ _
    | panic j=>rfl
theorem qs5 {call:E2.Call} {all:Array Oper} {b:Array Nat} (T:List Dfr):∀ {l:List Oper} {i:Nat} {done:List Done} {fr:Fr} {H:Heap},qat E call all b i l done (qbv fr T) H=(qat E call all b i l done fr H).map λx=>(qbv x.1 T,x.2)
 | [],_,_,_,_=>rfl
 | o::l,i,done,fr,H=>by
  have c:∀ i done fr H,_:=λi done fr H=>qs5 (call:=call) (all:=all) (b:=b) T (l:=l) (i:=i) (done:=done) (fr:=fr) (H:=H);unfold qat
  have e:ky o all (qbv fr T)=ky o all fr:=rfl;have f:qfe E o (qbv fr T)=qfe E o fr:=rfl;rw [e];cases ky o all fr with
  | none=>rfl
  | some a=>
   simp only [zB,f];generalize (bif a then (match qfe E o fr with
    | .call=>bif qjc E all b i then FP.lone else .call
    | x=>x) else .none)=fp
   generalize (done.filter λd=>!(b.getD i 0).testBit d.i)=free;have g:j8 E call all o {qbv fr T with tmps:=kl (qbv fr T).tmps (o.looksAt all) .nil} (zw H fp (free.flatMap Done.names))=j8 E call all o {fr with tmps:=kl fr.tmps (o.looksAt all) .nil} (zw H fp (free.flatMap Done.names)):=q1p ..;rw [g];cases (free.any λd=>qao d (free.flatMap Done.names) fp) with
   | true=>rfl
   | false=>
    simp only [zQ,Bool.false_eq_true,↓reduceIte];cases j8 E call all o {fr with tmps:=kl fr.tmps (o.looksAt all) .nil} (zw H fp (free.flatMap Done.names)) with
    | none=>rfl
    | some r=>
     obtain ⟨r,K⟩:=r;cases r with
     | ret v=>
      simp only;cases Nat.blt K.next H.next with
      | true=>rfl
      | false=>simp only [zQ,Bool.false_eq_true,↓reduceIte];rw [qol];exact c _ _ _ _
     | panic h=>rfl
theorem qb9 {call:E2.Call} {fuel:Nat} (T:List Dfr):∀ {c:Code} {fr:Fr} {H:Heap},qh E call fn round fuel c (qbv fr T) H=(qh E call fn round fuel c fr H).map (qvy T)
 | .skip,_,_=>rfl
 | .label _,_,_=>rfl
 | .exit _,_,_=>rfl
 | .goto _,_,_=>rfl
 | .ret,_,_=>rfl
 | .refuse _,_,_=>rfl
 | .seq a b,fr,H=>by
  simp only [qh,qb9 T (c:=a)];cases qh E call fn round fuel a fr H with
  | none=>rfl
  | some r=>
   obtain ⟨e,h,H1⟩:=r;cases e with
   | normal=>exact qb9 T (c:=b)
   | _=>rfl
 | .cond c a b,fr,H=>by
  have k:opd (qbv fr T) H c=opd fr H c:=qyl ..;simp only [qh,k];split
  .exact qb9 T
  .exact qb9 T
  .rfl
 | .block id a,fr,H=>by
  simp only [qh,qb9 T (c:=a)];cases qh E call fn round fuel a fr H with
  | none=>rfl
  | some r=>
   obtain ⟨e,h,H1⟩:=r;cases e with
   | exit l=>
    simp only [zH,qvy];cases Nat.beq l id<;>rfl
   | _=>rfl
 | .scope a,fr,H=>by
  simp only [qh,qb9 T (c:=a)];cases qh E call fn round fuel a fr H with
  | none=>rfl
  | some r=>
   obtain ⟨e,h,H1⟩:=r;cases e<;>rfl
 | .region id ops i,fr,H=>by
  cases i with
  | true=>
   simp only [qh,zO,↓reduceIte,qs5];cases qat E call ops (Region.before ops) 0 ops.toList [] fr H<;>rfl
  | false=>simp only [qh,zQ,Bool.false_eq_true,↓reduceIte];exact qvs T
 | .rangeFunc f d a b,fr,H=>by
  simp only [qh];cases qj2 round H with
  | none=>rfl
  | some z=>
   have k:opd (qbv fr T) H f=opd fr H f:=qyl ..;simp only [zB,k];split
   .rename_i g args _;cases qgc E g with
    | false=>rfl
    | true=>
     simp only [zO,↓reduceIte];have o:(qbv fr T).tmps=fr.tmps:=rfl;have p:(qbv fr T).n=fr.n:=rfl;simp only [o,p];cases call (.func g) args (z.2.1.new (.loop .ready none fr.tmps fr.n d.toList a b z.2.2)) with
     | none=>rfl
     | some r=>
      obtain ⟨r,q⟩:=r;cases r with
      | ret v=>
       simp only;cases qab q z.2.1.next with
       | none=>rfl
       | some y=>simp only [zH,qvy,qbv,List.append_assoc]
      | panic u=>simp only [zH,qvy,qbv,List.append_assoc]
   .rfl
 | .loop a,fr,H=>by
  simp only [qh];have m:∀ (n:Nat) (j:Ex) (fr:Fr) (H:Heap),iter (λ(s:Ex×Fr×Heap)=>match qh E call fn round fuel a s.2.1 s.2.2 with
    | some (.normal,fr',H')=>some (true,.normal,fr',H')
    | some r=>some (false,r)
    | none=>none) n (j,qbv fr T,H)=(iter (λ(s:Ex×Fr×Heap)=>match qh E call fn round fuel a s.2.1 s.2.2 with
    | some (.normal,fr',H')=>some (true,.normal,fr',H')
    | some r=>some (false,r)
    | none=>none) n (j,fr,H)).map (qvy T):=by
   intro n
   induction n with
   | zero=>intro j fr H;rfl
   | succ n t=>
    intro j fr H;simp only [iter,qb9 T (c:=a)];cases qh E call fn round fuel a fr H with
    | none=>rfl
    | some r=>
     obtain ⟨e,h,H1⟩:=r;cases e with
     | normal=>exact t _ _ _
     | _=>rfl
  exact m _ _ _ _
theorem zkb {c:Code} {fr:Fr} {H:Heap} {Q:Ex->Fr->Heap->Prop} (T:List Dfr) (h:Wp E fn round c fr H Q):Wp E fn round c (qbv fr T) H λex fr' H'=>∃ fr0,fr'=qbv fr0 T/\Q ex fr0 H':=by
 obtain ⟨x,⟨b,d⟩,e⟩:=h;exact ⟨qvy T x,⟨b,λk a=>by rw [qb9,d k a];rfl⟩,x.2.1,rfl,e⟩
end
end Go.E3
