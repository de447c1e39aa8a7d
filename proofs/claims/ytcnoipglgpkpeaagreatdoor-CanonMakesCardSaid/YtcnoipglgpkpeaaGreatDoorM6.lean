/- A VERIFIED EVALUATOR, texts E3s, E3t, E3u, E3v, E3w, E3x, E3y, E3z, E3za, E3zb, E3zd, L3a in one. -/
import Derived.Test.YtcnoipglgpkpeaaGreatDoorM5
import Derived.ChangeBook
import Derived.ChangeStays
import Derived.ChangeArms
import Derived.ChangeMaps5
import Derived.OpenShut
/- E3: REGIONS that draw their order, as a whole; what a piece of code leaves alone. -/
namespace Go.E3
open Go Go.E2
variable {K:Nat->Type}
section
variable {X:Codecs K} {sz:Nat->Nat} {C:ZC K} {base:Heap}
variable {tbl:Tbl K} {inv:Nat->List (NV K)->Prop} {meas:Nat->List (NV K)->Nat} {inl:ZI K}
variable {all:Array Oper} {b:Array Nat} {B old:Nat}
theorem za2 {α:Type}:∀ {l:List (Nat×α)} {j:Nat},(look l j).isSome=true->∃ a,(j,a) ∈ l
 | [],j,h=>by simp [look] at h
 | (i,a)::l,j,h=>by
  simp only [look,cond_eq_ite,Nat.beq_eq] at h
  by_cases hi:i=j
  .subst hi;exact ⟨a,zC⟩
  .rw [zF hi] at h
   obtain ⟨b,hb⟩:=za2 h
   exact ⟨b,zG _ hb⟩
theorem qk6 (ok:CfgOk X sz C) (ok2:CfgOk2 X C) (tok:qgv X sz C tbl) (iok:qlb X sz C inl):∀ {l:List Oper} {i:Nat} {w0:Wd} {l3:List Done3} {done:List Done} {st:StV K} {fr:Fr} {H:Heap} {w:Wd} {dt:Dirt} {k:StV K->Prop},
  Mid X sz C base B old i w0 l3 done st fr H w->Cm X sz B w0 done dt st fr->qxa (qo X tbl inv meas) C inl all b old i l dt l3 st k->
  WpD C.E all b i l done fr H fun ex fr' H'=>ex=.normal/\∃ st' w',k st'/\Rel X sz C base st' fr' H' w'/\Le w w'
 | [],i,w0,l3,done,st,fr,H,w,dt,k,m,_,h=>znc ⟨rfl,st,w,h,m.R,.refl w⟩
 | o::l,i,w0,l3,done,st,fr,H,w,dt,k,m,cm,h=>by
  simp only [qxa] at h
  cases hd:qo4 o.op with
  | true=>rw [hd] at h;exact absurd h id
  | false=>
   rw [hd] at h
   simp only [zQ] at h
   obtain ⟨bw,st1,hw,h1,hn,hnx,R1⟩:=qs6 m.R h
   have m1:Mid X sz C base B old i w0 l3 done st1 fr H w:=⟨m.R.step ok hn.tmps hn.n R1 (.refl w),m.D,m.hB,by rw [hnx];exact m.hold,m.lt,fun d hd id he=>by rw [hn.cells];exact m.live d hd id he,m.top,m.z,m.z0⟩
   have cm1:Cm X sz B w0 done dt st1 fr:=⟨fun t p v hd hp=>by rw [hn.tmps] at hp;exact cm.calm t p v hd hp,fun t c l' own v hd hp=>by rw [hn.tmps] at hp;exact cm.rep t c l' own v hd hp,cm.fresh⟩
   cases bw with
   | true=>
    simp only [zO] at h1
    split at h1
    .rename_i f hf
     cases ha:(l3.filter fun d=>!(b.getD i 0).testBit d.i).all (fun d=>qic old d f) with
     | false=>rw [ha] at h1;exact absurd h1 id
     | true=>
      rw [ha] at h1
      simp only [zO] at h1
      have hfz:∀ {st':StV K} {Q:Prop},(bif st1.cells.all (fun x=>(look st'.cells x.1).isSome) then Q else False)->st1.cells.all (fun x=>(look st'.cells x.1).isSome)=true/\Q:=by
       intro st' Q hq
       cases hc:st1.cells.all (fun x=>(look st'.cells x.1).isSome) with
       | false=>rw [hc] at hq;exact hq.elim
       | true=>rw [hc] at hq;exact ⟨rfl,hq⟩
      refine zlp ok ok2 tok iok m1 cm1 hw hf ha (fun p st' hk j hj=>?_) h1 fun p st' v J w' done' hk htn hmr hcv hle m'=>?_
      .obtain ⟨a,hin⟩:=za2 hj
       exact List.all_eq_true.1 (hfz hk).1 _ hin
      have hfb:∀ x d,jx dt st1 i o=some x->o.dst=some d->Nat.blt d fr.n=true:=by
       intro x d h2 h3
       unfold jx at h2
       rw [h3] at h2
       rw [m1.R.n]
       exact (qdh h2).1
      have ih:=qk6 ok ok2 tok iok m' (cm1.put hmr htn.1 (m1.R.n.trans htn.2.symm) hfb hcv) (hfz hk).2
      obtain ⟨x,hx,e,st'',w'',a1,a2,a3⟩:=ih
      exact ⟨x,hx,e,st'',w'',a1,a2,hle.trans a3⟩
    .exact absurd h1 id
   | false=>
    simp only [zQ] at h1
    refine zjh hw ?_
    exact qk6 ok ok2 tok iok (m1.go (f:=.none) (fp:=.none) (mk:=false) ok rfl rfl R1 (.refl w) .undef (zN _) ⟨zN _,zN _⟩ (fun _=>rfl) rfl (fun _ h=>h) (by simp)) (cm1.put (fun d hd=>zG _ hd) rfl m1.R.n (fun x d hx=>by cases hx) .no) h1
end
theorem qmu {fr:Fr} {dst:Option Tmp} {v:V} {t:Nat} (h:dst≠some t):(fr.put dst v).tmp t=fr.tmp t:=by
 cases dst with
 | none=>rfl
 | some d=>
  obtain ⟨tt,n,ds⟩:=fr
  simp only [Fr.put]
  cases Nat.blt d n with
  | false=>rfl
  | true=>
   simp only [zO,Fr.tmp,Tree.kq]
   rw [zF]
   intro he
   exact h (by rw [he])
theorem ziz {fr:Fr} {d:D} {t:Nat}:(fr.push d).tmp t=fr.tmp t:=by cases fr;rfl
theorem qh1 {E:Env} {call:Go.E2.Call} {nd:Bool} {all:Array Oper} {t:Nat}:∀ {l:List Oper} {fr fr':Fr} {H H':Heap} {ex:Ex},(∀ o ∈ l,o.dst≠some t)->qdq E call nd all l fr H=some (ex,fr',H')->fr'.tmp t=fr.tmp t
 | [],fr,fr',H,H',ex,_,h=>by
  simp only [qdq,zS,zP] at h
  rw [h.2.1]
 | o::l,fr,fr',H,H',ex,hd,h=>by
  have h0:=hd o zC
  have hl:∀ o ∈ l,o.dst≠some t:=fun o ho=>hd o (zG _ ho)
  simp only [qdq] at h
  split at h
  .split at h
   .cases hnd:nd with
    | false=>rw [hnd] at h;cases h
    | true=>
     rw [hnd] at h
     simp only [zO] at h
     obtain ⟨d,_,h2⟩:=zI.1 h
     rw [qh1 hl h2,qmu h0,ziz]
   .rw [qh1 hl h,qmu h0]
   .cases h
  .split at h
   .rw [qh1 hl h,qmu h0]
   .simp only [zS,zP] at h
    rw [h.2.1]
   .cases h
theorem qni {E:Env} {call:Go.E2.Call} {all:Array Oper} {b:Array Nat} {t:Nat}:∀ {l:List Oper} {i:Nat} {done:List Done} {fr fr':Fr} {H H':Heap},(∀ o ∈ l,o.dst≠some t)->qb7 E call all b i l done fr H=some (fr',H')->fr'.tmp t=fr.tmp t
 | [],i,done,fr,fr',H,H',_,h=>by
  simp only [qb7,zS,zP] at h
  rw [h.1]
 | o::l,i,done,fr,fr',H,H',hd,h=>by
  have h0:=hd o zC
  have hl:∀ o ∈ l,o.dst≠some t:=fun o ho=>hd o (zG _ ho)
  simp only [qb7] at h
  obtain ⟨wnt,_,h2⟩:=zI.1 h
  rcases z9 h2 with ⟨_,h3⟩ | ⟨_,h3⟩
  .split at h3
   .rcases z9 h3 with ⟨_,h4⟩ | ⟨_,h4⟩
    .rw [qni hl h4,qmu h0]
    .cases h4
   .cases h3
  .cases h3
theorem qn8 {σ:Type} {step:σ->Option (Bool×σ)} {P:σ->Prop} (hs:∀ s b s',P s->step s=some (b,s')->P s'):∀ {n:Nat} {s s':σ},P s->iter step n s=some s'->P s'
 | 0,s,s',_,h=>by cases h
 | n+1,s,s',hp,h=>by
  simp only [iter] at h
  split at h
  .rename_i s1 h1
   exact qn8 hs (hs _ _ _ hp h1) h
  .rename_i s1 h1
   cases h
   exact hs _ _ _ hp h1
  .cases h
theorem jl {E:Env} {call:Go.E2.Call} {fn:FuncId} {round:Option Nat} {fuel t:Nat}:∀ {c:Code} {fr fr':Fr} {H H':Heap} {ex:Ex},t ∉ qe7 c->zi E call fn round fuel c fr H=some (ex,fr',H')->fr'.tmp t=fr.tmp t
 | .skip,fr,fr',H,H',ex,_,h=>by simp only [zi,zS,zP] at h;rw [h.2.1]
 | .label _,fr,fr',H,H',ex,_,h=>by simp only [zi,zS,zP] at h;rw [h.2.1]
 | .exit _,fr,fr',H,H',ex,_,h=>by simp only [zi,zS,zP] at h;rw [h.2.1]
 | .goto _,fr,fr',H,H',ex,_,h=>by simp only [zi,zS,zP] at h;rw [h.2.1]
 | .ret,fr,fr',H,H',ex,_,h=>by simp only [zi,zS,zP] at h;rw [h.2.1]
 | .refuse _,fr,fr',H,H',ex,_,h=>by simp [zi] at h
 | .seq a b,fr,fr',H,H',ex,hd,h=>by
  simp only [qe7,List.mem_append,not_or] at hd
  simp only [zi] at h
  split at h
  .rename_i fr1 H1 h1
   rw [jl hd.2 h,jl hd.1 h1]
  .exact jl hd.1 h
 | .cond c a b,fr,fr',H,H',ex,hd,h=>by
  simp only [qe7,List.mem_append,not_or] at hd
  simp only [zi] at h
  split at h
  .exact jl hd.1 h
  .exact jl hd.2 h
  .cases h
 | .block id c,fr,fr',H,H',ex,hd,h=>by
  simp only [qe7] at hd
  simp only [zi] at h
  split at h
  .rename_i id' fr1 H1 h1
   simp only [cond_eq_ite] at h
   split at h
   .simp only [zS,zP] at h
    rw [<-h.2.1,jl hd h1]
   .simp only [zS,zP] at h
    rw [<-h.2.1,jl hd h1]
  .exact jl hd h
 | .scope c,fr,fr',H,H',ex,hd,h=>by
  simp only [qe7] at hd
  simp only [zi] at h
  split at h
  .cases h
  .exact jl hd h
 | .loop c,fr,fr',H,H',ex,hd,h=>by
  simp only [qe7] at hd
  simp only [zi] at h
  refine qn8 (P:=fun s:Ex×Fr×Heap=>s.2.1.tmp t=fr.tmp t) (fun s b s' hp hs=>?_) (s:=(.normal,fr,H)) rfl h
  split at hs
  .rename_i fr1 H1 h1
   simp only [zS,zP] at hs
   rw [<-hs.2]
   show fr1.tmp t=_
   rw [jl hd h1]
   exact hp
  .rename_i r _ h1
   simp only [zS,zP] at hs
   rw [<-hs.2]
   obtain ⟨e1,f1,g1⟩:=r
   show f1.tmp t=_
   rw [jl hd h1]
   exact hp
  .cases hs
 | .region _ ops draw,fr,fr',H,H',ex,hd,h=>by
  have hl:∀ o ∈ ops.toList,o.dst≠some t:=by
   intro o ho he
   exact hd (by simp only [qe7,List.mem_filterMap];exact ⟨o,ho,he⟩)
  simp only [zi] at h
  cases draw with
  | true=>
   simp only [zO] at h
   obtain ⟨⟨f1,g1⟩,h1,h2⟩:=zM.1 h
   simp only [zP] at h2
   rw [<-h2.2.1]
   exact qni hl h1
  | false=>
   simp only [zQ] at h
   exact qh1 hl h
 | .rangeFunc f ps a b,fr,fr',H,H',ex,hd,h=>by
  simp only [zi] at h
  obtain ⟨z,_,h⟩:=zI.1 h
  split at h
  .simp only [cond_eq_ite] at h
   split at h
   .split at h
    .obtain ⟨y,_,h2⟩:=zM.1 h
     simp only [zP] at h2
     rw [<-h2.2.1]
     rfl
    .simp only [zS,zP] at h
     rw [<-h.2.1]
     rfl
    .cases h
   .cases h
  .cases h
theorem qz1 {fr:Fr} {dst:Option Tmp} {v:V}:(fr.put dst v).n=fr.n:=by
 cases dst with
 | none=>rfl
 | some d=>
  obtain ⟨tt,n,ds⟩:=fr
  simp only [Fr.put]
  cases Nat.blt d n<;>rfl
theorem zp5 {fr:Fr} {d:D}:(fr.push d).n=fr.n:=by cases fr;rfl
theorem qpy {E:Env} {call:Go.E2.Call} {nd:Bool} {all:Array Oper} {t:Nat}:∀ {l:List Oper} {fr fr':Fr} {H H':Heap} {ex:Ex},(∀ o ∈ l,o.dst≠some t)->qdq E call nd all l fr H=some (ex,fr',H')->fr'.n=fr.n
 | [],fr,fr',H,H',ex,_,h=>by
  simp only [qdq,zS,zP] at h
  rw [h.2.1]
 | o::l,fr,fr',H,H',ex,hd,h=>by
  have h0:=hd o zC
  have hl:∀ o ∈ l,o.dst≠some t:=fun o ho=>hd o (zG _ ho)
  simp only [qdq] at h
  split at h
  .split at h
   .cases hnd:nd with
    | false=>rw [hnd] at h;cases h
    | true=>
     rw [hnd] at h
     simp only [zO] at h
     obtain ⟨d,_,h2⟩:=zI.1 h
     rw [qpy hl h2,qz1,zp5]
   .rw [qpy hl h,qz1]
   .cases h
  .split at h
   .rw [qpy hl h,qz1]
   .simp only [zS,zP] at h
    rw [h.2.1]
   .cases h
theorem qz6 {E:Env} {call:Go.E2.Call} {all:Array Oper} {b:Array Nat} {t:Nat}:∀ {l:List Oper} {i:Nat} {done:List Done} {fr fr':Fr} {H H':Heap},(∀ o ∈ l,o.dst≠some t)->qb7 E call all b i l done fr H=some (fr',H')->fr'.n=fr.n
 | [],i,done,fr,fr',H,H',_,h=>by
  simp only [qb7,zS,zP] at h
  rw [h.1]
 | o::l,i,done,fr,fr',H,H',hd,h=>by
  have h0:=hd o zC
  have hl:∀ o ∈ l,o.dst≠some t:=fun o ho=>hd o (zG _ ho)
  simp only [qb7] at h
  obtain ⟨wnt,_,h2⟩:=zI.1 h
  rcases z9 h2 with ⟨_,h3⟩ | ⟨_,h3⟩
  .split at h3
   .rcases z9 h3 with ⟨_,h4⟩ | ⟨_,h4⟩
    .rw [qz6 hl h4,qz1]
    .cases h4
   .cases h3
  .cases h3
theorem qcs {E:Env} {call:Go.E2.Call} {fn:FuncId} {round:Option Nat} {fuel t:Nat}:∀ {c:Code} {fr fr':Fr} {H H':Heap} {ex:Ex},t ∉ qe7 c->zi E call fn round fuel c fr H=some (ex,fr',H')->fr'.n=fr.n
 | .skip,fr,fr',H,H',ex,_,h=>by simp only [zi,zS,zP] at h;rw [h.2.1]
 | .label _,fr,fr',H,H',ex,_,h=>by simp only [zi,zS,zP] at h;rw [h.2.1]
 | .exit _,fr,fr',H,H',ex,_,h=>by simp only [zi,zS,zP] at h;rw [h.2.1]
 | .goto _,fr,fr',H,H',ex,_,h=>by simp only [zi,zS,zP] at h;rw [h.2.1]
 | .ret,fr,fr',H,H',ex,_,h=>by simp only [zi,zS,zP] at h;rw [h.2.1]
 | .refuse _,fr,fr',H,H',ex,_,h=>by simp [zi] at h
 | .seq a b,fr,fr',H,H',ex,hd,h=>by
  simp only [qe7,List.mem_append,not_or] at hd
  simp only [zi] at h
  split at h
  .rename_i fr1 H1 h1
   rw [qcs hd.2 h,qcs hd.1 h1]
  .exact qcs hd.1 h
 | .cond c a b,fr,fr',H,H',ex,hd,h=>by
  simp only [qe7,List.mem_append,not_or] at hd
  simp only [zi] at h
  split at h
  .exact qcs hd.1 h
  .exact qcs hd.2 h
  .cases h
 | .block id c,fr,fr',H,H',ex,hd,h=>by
  simp only [qe7] at hd
  simp only [zi] at h
  split at h
  .rename_i id' fr1 H1 h1
   simp only [cond_eq_ite] at h
   split at h
   .simp only [zS,zP] at h
    rw [<-h.2.1,qcs hd h1]
   .simp only [zS,zP] at h
    rw [<-h.2.1,qcs hd h1]
  .exact qcs hd h
 | .scope c,fr,fr',H,H',ex,hd,h=>by
  simp only [qe7] at hd
  simp only [zi] at h
  split at h
  .cases h
  .exact qcs hd h
 | .loop c,fr,fr',H,H',ex,hd,h=>by
  simp only [qe7] at hd
  simp only [zi] at h
  refine qn8 (P:=fun s:Ex×Fr×Heap=>s.2.1.n=fr.n) (fun s b s' hp hs=>?_) (s:=(.normal,fr,H)) rfl h
  split at hs
  .rename_i fr1 H1 h1
   simp only [zS,zP] at hs
   rw [<-hs.2]
   show fr1.n=_
   rw [qcs hd h1]
   exact hp
  .rename_i r _ h1
   simp only [zS,zP] at hs
   rw [<-hs.2]
   obtain ⟨e1,f1,g1⟩:=r
   show f1.n=_
   rw [qcs hd h1]
   exact hp
  .cases hs
 | .region _ ops draw,fr,fr',H,H',ex,hd,h=>by
  have hl:∀ o ∈ ops.toList,o.dst≠some t:=by
   intro o ho he
   exact hd (by simp only [qe7,List.mem_filterMap];exact ⟨o,ho,he⟩)
  simp only [zi] at h
  cases draw with
  | true=>
   simp only [zO] at h
   obtain ⟨⟨f1,g1⟩,h1,h2⟩:=zM.1 h
   simp only [zP] at h2
   rw [<-h2.2.1]
   exact qz6 hl h1
  | false=>
   simp only [zQ] at h
   exact qpy hl h
 | .rangeFunc f ps a b,fr,fr',H,H',ex,hd,h=>by
  simp only [zi] at h
  obtain ⟨z,_,h⟩:=zI.1 h
  split at h
  .simp only [cond_eq_ite] at h
   split at h
   .split at h
    .obtain ⟨y,_,h2⟩:=zM.1 h
     simp only [zP] at h2
     rw [<-h2.2.1]
    .simp only [zS,zP] at h
     rw [<-h.2.1]
    .cases h
   .cases h
  .cases h
theorem qvb (l:List Nat):∃ t,t ∉ l:=by
 have key:∃ m,∀ x ∈ l,x<m:=by
  induction l with
  | nil=>exact ⟨0,fun x hx=>by cases hx⟩
  | cons a l ih=>
   obtain ⟨m,hm⟩:=ih
   refine ⟨max m (a+1),fun x hx=>?_⟩
   rcases zD.1 hx with rfl | hx
   .omega
   .have:=hm x hx;omega
 obtain ⟨m,hm⟩:=key
 exact ⟨m,fun h=>Nat.lt_irrefl _ (hm m h)⟩
theorem Wp.frame {E:Env} {fn:FuncId} {round:Option Nat} {c:Code} {fr:Fr} {H:Heap} {Q:Ex->Fr->Heap->Prop} (h:Wp E fn round c fr H Q):Wp E fn round c fr H fun ex fr' H'=>Q ex fr' H'/\(∀ t,t ∉ qe7 c->fr'.tmp t=fr.tmp t)/\fr'.n=fr.n:=by
 obtain ⟨x,⟨k0,h1⟩,h2⟩:=h
 obtain ⟨e,f,g⟩:=x
 refine ⟨(e,f,g),⟨k0,h1⟩,h2,fun t ht=>jl ht (h1 k0 (zN _)),?_⟩
 obtain ⟨t,ht⟩:=qvb (qe7 c)
 exact qcs ht (h1 k0 (zN _))
end Go.E3
/- E3: WHAT VARIES, at the head of a loop and behind a cut. -/
namespace Go.E3
open Go Go.E2
variable {K:Nat->Type}
structure Part (X:Codecs K) (sz:Nat->Nat) (base:Heap) (st0:StV K) (w0:Wd) (st2:StV K) (H2:Heap) (w2:Wd) (st1:StV K) (w1:Wd) (pend:List Nat):Prop where
 g:w1.g=w2.g
 M:w1.M=w2.M
 ce:w1.ce=w2.ce
 nx:w1.nx=w2.nx
 c:w1.c=w2.c
 cl:∀ id,w1.cl id↔(w2.cl id/\id<st0.next)
 n:w1.n=st1.next
 le:Le w0 w1
 nxt:st0.next<=st1.next
 known:st1.known=st0.known
 owns:w1.owns=look st1.owns
 ownn:∀ i s,look st1.owns i=some s->i<st1.next
 eta:∀ i s nm,look st1.owns i=some s->w1.eta i=some nm->base.next<=nm/\nm<H2.next/\¬ w2.M nm
 einj:∀ i j s s' nm,look st1.owns i=some s->look st1.owns j=some s'->w1.eta i=some nm->w1.eta j=some nm->i=j
 pends:∀ i2 ∈ pend,(∃ s2,look st2.owns i2=some s2)/\∀ nm,w2.eta i2=some nm->∀ j s,look st1.owns j=some s->w1.eta j≠some nm
 pdist:pend.Nodup
section
variable {X:Codecs K} {sz:Nat->Nat} {C:ZC K} {base H0 H2:Heap} {st0 st2:StV K} {w0 w2:Wd}
variable {tbl:Tbl K} {inv:Nat->List (NV K)->Prop} {meas:Nat->List (NV K)->Nat}
theorem Part.move (ok2:CfgOk2 X C) {st1:StV K} {w1:Wd} {pend:List Nat} (m:Part X sz base st0 w0 st2 H2 w2 st1 w1 pend) {p:PV K} {v:V} (r:Rep X sz w2 p v) (hp:Plain p):Rep X sz w1 p v:=
 r.plain ok2.plain m.g (fun _ _ _ h=>by rw [m.M];exact h) hp
theorem qep (ok:CfgOk X sz C) (ok2:CfgOk2 X C) (R2:RelH X sz C base st2 H2 w2):∀ {ks:List SK} {ps p2s:List (PV K)} {vs:List V} {ns:List (NV K)} {pend:List Nat} {st1:StV K} {w1:Wd} {G:List (PV K)->List (NV K)->StV K->Prop},
  qk9 (qo X tbl inv meas) st2 ks p2s=some ns->qu X sz w2 p2s vs->(∀ (i:Nat) (p:PV K),ks[i]? = some .keep->ps[i]? = some p->∀ w',Le w0 w'->w'.g=w2.g->w'.M=w2.M->Rep X sz w' p (vs.getD i kz))->
  Part X sz base st0 w0 st2 H2 w2 st1 w1 (jy ks p2s++pend)->qm2 (qo X tbl inv meas) ks ps st1 G->
  ∃ qs st1' w1',G qs ns st1'/\Part X sz base st0 w0 st2 H2 w2 st1' w1' pend/\Le w1 w1'/\qu X sz w1' qs vs/\st1'.tmps=st1.tmps/\st1'.n=st1.n/\st1'.cells=st1.cells
 | [],[],p2s,vs,ns,pend,st1,w1,G,hN,hr,hK,m,h=>by
  cases p2s with
  | nil=>
   simp only [qk9,zS] at hN
   subst hN
   simp only [qm2] at h
   have:=hr.km;subst this
   exact ⟨[],st1,w1,h,m,.refl w1,.nil,rfl,rfl,rfl⟩
  | cons _ _=>simp [qk9] at hN
 | [],_::_,p2s,vs,ns,pend,st1,w1,G,hN,hr,hK,m,h=>absurd h id
 | _::_,[],p2s,vs,ns,pend,st1,w1,G,hN,hr,hK,m,h=>absurd h id
 | k::ks,p::ps,[],vs,ns,pend,st1,w1,G,hN,hr,hK,m,h=>by simp [qk9] at hN
 | k::ks,p::ps,p2::p2s,vs,ns,pend,st1,w1,G,hN,hr,hK,m,h=>by
  obtain ⟨v,vs',rfl,r1,r2⟩:=hr.kc
  simp only [qk9] at hN
  obtain ⟨a,hN1,hN2⟩:=zI.1 hN
  obtain ⟨ns',hN3,hN4⟩:=zM.1 hN2
  subst hN4
  have hK':∀ (i:Nat) (p:PV K),ks[i]? = some .keep->ps[i]? = some p->∀ w',Le w0 w'->w'.g=w2.g->w'.M=w2.M->Rep X sz w' p (vs'.getD i kz):=by
   intro i q h1 h2 w' h3 h4 h5
   have:=hK (i+1) q (by simpa using h1) (by simpa using h2) w' h3 h4 h5
   simpa using this
  cases k with
  | int kd=>
   simp only [qm2] at h
   cases p2 with
   | int k' l n=>
    simp only [qrp] at hN1
    split at hN1
    .rename_i hk
     subst hk
     cases hN1
     cases r1
     have m':Part X sz base st0 w0 st2 H2 w2 st1 w1 (jy ks p2s++pend):=m
     obtain ⟨qs,st1',w1',g1,g2,g3,g4,g5,g6,g7⟩:=qep ok ok2 R2 hN3 r2 hK' m' (h n)
     exact ⟨_,st1',w1',g1,g2,g3,.cons (.int fun m hm=>by cases hm) g4,g5,g6,g7⟩
    .cases hN1
   | _=>simp [qrp] at hN1
  | str=>
   simp only [qm2] at h
   cases p2 with
   | str s=>
    simp only [qrp,zS] at hN1
    subst hN1
    cases r1
    obtain ⟨qs,st1',w1',g1,g2,g3,g4,g5,g6,g7⟩:=qep ok ok2 R2 hN3 r2 hK' m (h s)
    exact ⟨_,st1',w1',g1,g2,g3,.cons .str g4,g5,g6,g7⟩
   | _=>simp [qrp] at hN1
  | keep=>
   simp only [qm2] at h
   have ha:a=[]:=by
    cases p2<;>simp [qrp] at hN1<;>exact hN1
   subst ha
   obtain ⟨qs,st1',w1',g1,g2,g3,g4,g5,g6,g7⟩:=qep ok ok2 R2 hN3 r2 hK' m h
   have hq:=hK 0 p rfl rfl w1' g2.le g2.g g2.M
   simp only [List.getD_cons_zero] at hq
   exact ⟨_,st1',w1',g1,g2,g3,.cons hq g4,g5,g6,g7⟩
  | bool=>
   simp only [qm2] at h
   have hb:∃ b,a=[.b b]/\v=.bool b:=by
    cases p2 with
    | lit b=>simp only [qrp,zS] at hN1;cases r1;exact ⟨b,hN1.symm,rfl⟩
    | sb id neg b pt pf=>simp only [qrp,zS] at hN1;cases r1;exact ⟨b,hN1.symm,rfl⟩
    | _=>simp [qrp] at hN1
   obtain ⟨b,rfl,rfl⟩:=hb
   let w1b:Wd:={w1 with n:=st1.next+1,nu:=fun id=>if id=st1.next then b else w1.nu id}
   have hle:Le w1 w1b:=Le.ext (by rw [m.n];exact Nat.le_succ _) (fun id hi=>zF (by rw [m.n] at hi;omega))
   have m':Part X sz base st0 w0 st2 H2 w2 {st1 with next:=st1.next+1} w1b (jy ks p2s++pend):=
    ⟨m.g,m.M,m.ce,m.nx,m.c,m.cl,rfl,m.le.trans hle,Nat.le_succ_of_le m.nxt,m.known,m.owns,fun i s h=>Nat.lt_succ_of_lt (m.ownn i s h),m.eta,m.einj,m.pends,m.pdist⟩
   obtain ⟨qs,st1',w1',g1,g2,g3,g4,g5,g6,g7⟩:=qep ok ok2 R2 hN3 r2 hK' m' (h b)
   refine ⟨_,st1',w1',g1,g2,hle.trans g3,.cons ?_ g4,g5,g6,g7⟩
   have:Rep X sz w1b (.sb st1.next false b (b=true) (b=false)) (.bool b):=.sb .rfl .rfl fun _=>⟨Nat.lt_succ_self _,by show b=((if st1.next=st1.next then b else w1.nu st1.next) != false);rw [zT rfl];simp⟩
   exact this.mono ok.len g3
  | list c own nb=>
   simp only [qm2] at h
   have hl:∃ l,asL (qo X tbl inv meas) c p2=some l/\a=[.l c l]/\(own=true->qdc st2 p2=true)/\(nb=true->zh9 p2=true):=by
    have e:qrp (qo X tbl inv meas) st2 (.list c own nb) p2=(bif (own&&!qdc st2 p2) || (nb&&!zh9 p2) then none else (asL (qo X tbl inv meas) c p2).map fun l=>[.l c l]):=by
     cases p2<;>rfl
    rw [e] at hN1
    rcases z9 hN1 with ⟨hb,h2⟩ | ⟨_,h2⟩
    .obtain ⟨l,hl,rfl⟩:=zM.1 h2
     simp only [Bool.or_eq_false_iff] at hb
     refine ⟨l,hl,rfl,fun ho=>?_,fun ho=>?_⟩
     .have:=hb.1
      rw [ho] at this
      simpa using this
     .have:=hb.2
      rw [ho] at this
      simpa using this
    .cases h2
   obtain ⟨l,hl,rfl,hown,hodd⟩:=hl
   have rl:=qdv r1 hl
   cases own with
   | false=>
    have hids:jy (.list c false nb::ks) (p2::p2s)=jy ks p2s:=by cases p2<;>rfl
    rw [hids] at m
    have h':qm2 (qo X tbl inv meas) ks ps st1 fun qs ns st'=>G (.list c l none::qs) (.l c l::ns) st':=h l
    obtain ⟨qs,st1',w1',g1,g2,g3,g4,g5,g6,g7⟩:=qep ok ok2 R2 hN3 r2 hK' m h'
    exact ⟨_,st1',w1',g1,g2,g3,.cons ((m.move ok2 rl .list).mono ok.len g3) g4,g5,g6,g7⟩
   | true=>
    have hown:=hown rfl
    have h':qm2 (qo X tbl inv meas) ks ps {st1 with owns:=(st1.next,bif nb then 1 else 0)::st1.owns,next:=st1.next+1} fun qs ns st'=>G (.list c l (some (st1.next,bif nb then 1 else 0))::qs) (.l c l::ns) st':=h l
    generalize hq:(bif nb then 1 else 0:Nat)=q at h'
    have hcase:∃ e0:Option Nat,(p2=.nils/\e0=none/\jy (.list c true nb::ks) (p2::p2s)=jy ks p2s)∨(∃ l2 i2 s2,p2=.list c l2 (some (i2,s2))/\e0=w2.eta i2/\look st2.owns i2=some s2/\jy (.list c true nb::ks) (p2::p2s)=i2::jy ks p2s):=by
     cases p2 with
     | nils=>exact ⟨none,.inl ⟨rfl,rfl,rfl⟩⟩
     | list c2 l2 o2=>
      cases o2 with
      | none=>simp [qdc] at hown
      | some x=>
       obtain ⟨i2,s2⟩:=x
       simp only [qdc] at hown
       split at hown
       .rename_i s' hs
        have:=zE hown;subst this
        unfold asL at hl
        simp only at hl
        split at hl
        .rename_i hc
         subst hc
         exact ⟨w2.eta i2,.inr ⟨l2,i2,_,rfl,rfl,hs,rfl⟩⟩
        .cases hl
       .cases hown
     | _=>simp [qdc] at hown
    obtain ⟨e0,hcase⟩:=hcase
    let w1b:Wd:={w1 with n:=st1.next+1,owns:=look ((st1.next,q)::st1.owns),eta:=fun j=>if j=st1.next then e0 else w1.eta j}
    have hnone:look st1.owns st1.next=none:=by
     cases hq:look st1.owns st1.next with
     | none=>rfl
     | some s=>have:=m.ownn _ _ hq;omega
    have hle:Le w1 w1b:=by
     refine ⟨⟨by rw [m.n];exact Nat.le_succ _,fun nm cs e gen floor frz ex hg hM=>⟨hM,[],gen,frz,ex,by rw [zJ];exact hg⟩,fun _ _=>rfl,fun _ _=>rfl,fun i hi h0=>?_,fun i s s' hi h0 h1=>?_,fun i s hi h0 h1=>?_,rfl,fun _ _=>.rfl,zN _,rfl,fun _ _ h=>h,fun _ _=>rfl⟩,fun _ h=>h,rfl⟩
     .rw [m.n] at hi
      rw [m.owns] at h0
      show look ((st1.next,q)::st1.owns) i=none
      rw [qag,zF (by omega)]
      exact h0
     .rw [m.n] at hi
      rw [m.owns] at h0
      have h1':look ((st1.next,q)::st1.owns) i=some s':=h1
      rw [qag,zF (by omega),h0] at h1'
      cases h1'
      exact zN _
     .rw [m.n] at hi
      exact ⟨zF (by omega),fun _ _ _=>rfl⟩
    have hfree:∀ nm,e0=some nm->(∀ j s,look st1.owns j=some s->w1.eta j≠some nm)/\base.next<=nm/\nm<H2.next/\¬ w2.M nm:=by
     intro nm hnm
     rcases hcase with ⟨rfl,he,_⟩ | ⟨l2,i2,s2,rfl,he,hs2,hids⟩
     .rw [he] at hnm;cases hnm
     .have:=m.pends i2 (by rw [hids];exact List.mem_append_left _ zC)
      rw [he] at hnm
      exact ⟨this.2 nm hnm,R2.eta i2 s2 nm hs2 hnm⟩
    have m':Part X sz base st0 w0 st2 H2 w2 {st1 with owns:=(st1.next,q)::st1.owns,next:=st1.next+1} w1b (jy ks p2s++pend):=by
     have hsub:∀ i,i ∈ jy ks p2s++pend->i ∈ jy (.list c true nb::ks) (p2::p2s)++pend:=by
      intro i hi
      rcases hcase with ⟨_,_,hids⟩ | ⟨l2,i2,s2,_,_,_,hids⟩
      .rw [hids];exact hi
      .rw [hids];exact zG _ hi
     have hnd:(jy ks p2s++pend).Nodup:=by
      have:=m.pdist
      rcases hcase with ⟨_,_,hids⟩ | ⟨l2,i2,s2,_,_,_,hids⟩
      .rw [hids] at this;exact this
      .rw [hids,List.cons_append,List.nodup_cons] at this;exact this.2
     refine ⟨m.g,m.M,m.ce,m.nx,m.c,m.cl,rfl,m.le.trans hle,Nat.le_succ_of_le m.nxt,m.known,rfl,fun i s h=>?_,fun i s nm h hn=>?_,fun i j s s' nm h1 h2 e1 e2=>?_,fun i2 hi2=>?_,hnd⟩
     .rw [qag] at h
      by_cases hi:i=st1.next
      .subst hi;exact Nat.lt_succ_self _
      .rw [zF hi] at h;exact Nat.lt_succ_of_lt (m.ownn i s h)
     .rw [qag] at h
      by_cases hi:i=st1.next
      .have hn':e0=some nm:=by
        have:(if i=st1.next then e0 else w1.eta i)=some nm:=hn
        rw [zT hi] at this
        exact this
       exact (hfree nm hn').2
      .rw [zF hi] at h
       have hn':w1.eta i=some nm:=by
        have:(if i=st1.next then e0 else w1.eta i)=some nm:=hn
        rw [zF hi] at this
        exact this
       exact m.eta i s nm h hn'
     .rw [qag] at h1 h2
      have e1':(if i=st1.next then e0 else w1.eta i)=some nm:=e1
      have e2':(if j=st1.next then e0 else w1.eta j)=some nm:=e2
      by_cases hi:i=st1.next<;>by_cases hj:j=st1.next
      .omega
      .rw [zT hi] at e1'
       rw [zF hj] at e2' h2
       exact absurd e2' ((hfree nm e1').1 j s' h2)
      .rw [zF hi] at e1' h1
       rw [zT hj] at e2'
       exact absurd e1' ((hfree nm e2').1 i s h1)
      .rw [zF hi] at e1' h1
       rw [zF hj] at e2' h2
       exact m.einj i j s s' nm h1 h2 e1' e2'
     .obtain ⟨⟨s2,hs2⟩,hp⟩:=m.pends i2 (hsub i2 hi2)
      refine ⟨⟨s2,hs2⟩,fun nm hnm j s hj he=>?_⟩
      rw [qag] at hj
      have he':(if j=st1.next then e0 else w1.eta j)=some nm:=he
      by_cases hjn:j=st1.next
      .rw [zT hjn] at he'
       rcases hcase with ⟨hp2,he2,_⟩ | ⟨l2,i3,s3,hp2,he2,hs3,hids⟩
       .rw [he2] at he'
        cases he'
       .rw [he2] at he'
        have:=R2.einj i2 i3 s2 s3 nm hs2 hs3 hnm he'
        subst this
        have hd:=m.pdist
        rw [hids,List.cons_append,List.nodup_cons] at hd
        exact hd.1 hi2
      .rw [zF hjn] at he' hj
       exact hp nm hnm j s hj he'
    obtain ⟨qs,st1',w1',g1,g2,g3,g4,g5,g6,g7⟩:=qep ok ok2 R2 hN3 r2 hK' m' h'
    refine ⟨_,st1',w1',g1,g2,hle.trans g3,.cons (Rep.mono ok.len g3 ?_) g4,g5,g6,g7⟩
    have hcur:∀ cur,w1b.owns st1.next=some cur->q<=cur:=by
     intro cur hc'
     have:look ((st1.next,q)::st1.owns) st1.next=some cur:=hc'
     rw [qag,zT rfl] at this
     cases this
     exact zN _
    have hnb:q % 2=1->∀ v0,Rep X sz w2 p2 v0->NB v0:=by
     intro h1 v0 r0
     have hnt:nb=true:=by
      cases nb with
      | true=>rfl
      | false=>simp at hq;subst hq;cases h1
     have ho:=hodd hnt
     unfold zh9 at ho
     split at ho
     .cases r0;trivial
     .have hs:=zE ho
      cases r0 with
      | nlist hh=>exact hh.2.2.2 hs
      | list _ _ _ _ _ _ _ _ hh=>exact hh.2.2.2 hs
     .cases ho
    rcases je rl with ⟨rfl,rfl⟩ | ⟨nm,gn,off,z,cap,cs,e,gen,floor,frz,ex,rfl,hg,hf,hM,hlen,hz,hcap,hcell,_⟩
    .exact .nlist ⟨Nat.lt_succ_self _,hcur,fun _=>trivial,fun _=>trivial⟩
    .have hplain:=m.move ok2 rl .list
     rcases je hplain with ⟨_,hh⟩ | ⟨nm',gn',off',z',cap',cs',e',gen',floor',frz',ex',hh,hg',hf',hM',hlen',hz',hcap'',hcell',_⟩
     .cases hh
     .cases hh
      refine .list hg' hf' hM' rfl hlen' hz hcap'' (fun i hi j p hp=>(hcell' i hi j p hp).mono ok.len hle) ⟨Nat.lt_succ_self _,hcur,fun _=>?_,fun h=>hnb h _ r1⟩
      rcases hcase with ⟨rfl,_⟩ | ⟨l2,i2,s2,rfl,he2,hs2,_⟩
      .cases r1
      .have hll:l2=l:=by
        unfold asL at hl
        simp only at hl
        split at hl
        .cases hl;rfl
        .cases hl
       subst hll
       have hclaim:qs7 w2 sz i2 c (.slice nm gn off l2.length z cap):=by
        rcases je r1 with ⟨_,hh⟩ | ⟨nm3,gn3,off3,z3,cap3,cs3,e3,gen3,floor3,frz3,ex3,hh,_,_,_,_,_,_,_,ho3⟩
        .cases hh
        .rw [hh];exact ho3.2.2.1 (by rw [R2.owns];exact hs2)
       simp only [qs7] at hclaim ⊢
       rcases hclaim with hc | ⟨hc1,hc2,cs4,e4,floor4,frz4,ex4,hg4,hr4⟩
       .exact .inl hc
       .refine .inr ⟨hc1,?_,cs4,e4,floor4,frz4,ex4,by show w1.g nm=_;rw [m.g];exact hg4,hr4.1,hr4.2.1,by show w1.ce e4=_;rw [m.ce];exact hr4.2.2⟩
        show (if st1.next=st1.next then e0 else w1.eta st1.next)=some nm
        rw [zT rfl,he2]
        exact hc2
end
end Go.E3
/- E3: THE HEAD of a loop, and what stands behind a cut. -/
namespace Go.E3
open Go Go.E2
variable {K:Nat->Type}
theorem qvs {α:Type}:∀ {l:List Nat} {t:Tree α} {n:Nat},(qqq l t).get n=if n ∈ l then none else t.get n
 | [],t,n=>by simp [qqq]
 | m::l,t,n=>by
  simp only [qqq]
  rw [qvs,Tree.qpc]
  by_cases h1:n ∈ l
  .simp [h1]
  .by_cases h2:n=m
   .subst h2;simp [h1]
   .simp [h1,h2]
theorem qkr {α:Type}:∀ {ids:List Nat} {l:List (Nat×α)} {j:Nat},look (ids.foldl qad l) j=if j ∈ ids then none else look l j
 | [],l,j=>by simp
 | i::ids,l,j=>by
  simp only [List.foldl_cons]
  rw [qkr,qes]
  by_cases h1:j ∈ ids
  .simp [h1]
  .by_cases h2:j=i
   .subst h2;simp [h1]
   .simp [h1,h2]
theorem qfh {α:Type}:∀ {l:List (Nat×α)} {n:Nat} {a:α},look l n=some a->(n,a) ∈ l
 | [],_,_,h=>by cases h
 | (i,b)::l,n,a,h=>by
  simp only [look,cond_eq_ite,Nat.beq_eq] at h
  split at h
  .rename_i hi
   subst hi
   cases h
   exact zC
  .exact zG _ (qfh h)
theorem qfc:∀ {l:List Nat},distinct l=true->l.Nodup
 | [],_=>List.nodup_nil
 | i::l,h=>by
  simp only [distinct,zA,Bool.not_eq_true'] at h
  rw [List.nodup_cons]
  refine ⟨fun hm=>?_,qfc h.2⟩
  have:=h.1
  rw [<-Bool.not_eq_true,List.any_eq_true] at this
  exact this ⟨i,hm,Nat.beq_refl i⟩
section
variable {X:Codecs K} {sz:Nat->Nat} {C:ZC K} {base H0 H2:Heap} {st0 st2:StV K} {w0 w1 w2:Wd} {fr0 fr2:Fr}
variable {tbl:Tbl K} {inv:Nat->List (NV K)->Prop} {meas:Nat->List (NV K)->Nat}
theorem Rep.zi9 {w:Wd} {c:Nat} {l:List (K c)} {own:Option (Nat×Nat)} {v:V} (r:Rep X sz w (.list c l own) v):Rep X sz w (.list c l none) v/\qj1 w sz c own v:=by
 cases r with
 | nlist ho=>exact ⟨.nlist trivial,ho⟩
 | list hg hf hM hlen hb hz hcap hc ho=>exact ⟨.list hg hf hM hlen hb hz hcap hc trivial,ho⟩
theorem Rep.qhe {w:Wd} {c:Nat} {l:List (K c)} {own:Option (Nat×Nat)} {v:V} (r:Rep X sz w (.list c l none) v) (h:qj1 w sz c own v):Rep X sz w (.list c l own) v:=by
 cases r with
 | nlist ho=>exact .nlist h
 | list hg hf hM hlen hb hz hcap hc ho=>exact .list hg hf hM hlen hb hz hcap hc h
theorem qv1 {st:StV K} {w:Wd} (how:∀ i,w.owns i=look st.owns i) {c:Nat} {l:List (K c)} {i s:Nat} (h:qdc st (.list c l (some (i,s)):PV K)=true):w.owns i=some s:=by
 rw [how]
 simp only [qdc] at h
 split at h
 .rename_i s' hs
  rw [hs,zE h]
 .cases h
theorem q2d (ok2:CfgOk2 X C) (hle:Le w0 w1) (hle2:Le w0 w2) {c:Nat} {l l':List (K c)} {i s:Nat} {v0 v:V} (h2:w2.owns i=some s) (hg:w1.g=w2.g) (hM:w1.M=w2.M) (r0:Rep X sz w0 (.list c l' (some (i,s))) v0) (r2:Rep X sz w2 (.list c l (some (i,s))) v) :
  Rep X sz w1 (.list c l (some (i,s))) v:=by
 obtain ⟨r2',o2⟩:=r2.zi9
 obtain ⟨_,o0⟩:=r0.zi9
 refine (r2'.plain ok2.plain hg (fun _ _ _ hm=>by rw [hM];exact hm) .list).qhe ⟨zL o0.1 hle.n,(qj1.mono hle o0).2.1,fun h1=>?_,o2.2.2.2⟩
 have hv:=o2.2.2.1 h2
 have h0:w0.owns i=some s:=by
  cases h0:w0.owns i with
  | none=>rw [hle.o1 i o0.1 h0] at h1;cases h1
  | some s0=>
   have a:=o0.2.1 s0 h0
   have b:=hle.o2 i s0 s o0.1 h0 h1
   rw [Nat.le_antisymm b a]
 obtain ⟨e1,_⟩:=hle.o3 i s o0.1 h0 h1
 obtain ⟨e2,_⟩:=hle2.o3 i s o0.1 h0 h2
 have ec:w1.ce=w2.ce:=hle.ce.trans hle2.ce.symm
 cases v with
 | nils=>trivial
 | slice nm gn off len z cap=>
  simp only [qs7] at hv ⊢
  rcases hv with hv | ⟨hcap,he,cs,e,floor,frz,ex,hg',hr⟩
  .exact .inl hv
  .exact .inr ⟨hcap,by rw [e1,<-e2];exact he,cs,e,floor,frz,ex,by rw [hg];exact hg',hr.1,hr.2.1,by rw [ec];exact hr.2.2⟩
 | _=>exact hv
mutual
theorem qs0 (hx:∀ c x,(X.cells c x).length=sz c) (ok2:CfgOk2 X C) (hle:Le w0 w1) (hle2:Le w0 w2) (how:∀ i,w2.owns i=look st2.owns i) (hc:∀ id,id<w0.n->w1.c id=w2.c id) (hg:w1.g=w2.g) (hM:w1.M=w2.M):∀ (p p2:PV K) {obs:List Prop} {v0 v:V},
  qae (qo X tbl inv meas) st2 p p2=some obs->(∀ q ∈ obs,q)->Rep X sz w0 p v0->Rep X sz w2 p2 v->Rep X sz w1 p v
 | .int k l a,p2,obs,v0,v,h,ho,r0,r2=>by
  cases p2 with
  | int k' l' b=>
   simp only [qae] at h
   split at h
   .rename_i hk
    subst hk
    have:a=b:=by
     rcases hl:q2h l l' with _ | _
     .rw [hl] at h
      cases h
      exact ho _ zC
     .unfold q2h at hl
      split at hl
      .rename_i x y
       have hxy:x=y:=of_decide_eq_true hl
       cases r0 with | int h0=>cases r2 with | int h2=>
       rw [<-h0 x rfl,<-h2 y rfl,hxy]
      .cases hl
    subst this
    cases r2
    cases r0 with | int h1=>exact .int h1
   .cases h
  | _=>simp [qae] at h
 | .lit a,p2,obs,v0,v,h,ho,r0,r2=>by
  cases p2 with
  | lit b=>
   simp only [qae] at h
   split at h
   .rename_i hk
    subst hk
    cases r2
    exact .lit
   .cases h
  | _=>simp [qae] at h
 | .sb id neg a pt pf,p2,obs,v0,v,h,ho,r0,r2=>by
  cases p2 with
  | sb id' neg' b pt' pf'=>
   simp only [qae,zS] at h
   subst h
   have:a=b:=ho _ zC
   subst this
   cases r2
   have:=r0.mono hx hle
   cases r0
   exact this
  | _=>simp [qae] at h
 | .str a,p2,obs,v0,v,h,ho,r0,r2=>by
  cases p2 with
  | str b=>
   simp only [qae,zS] at h
   subst h
   have:a=b:=ho _ zC
   subst this
   cases r2
   exact .str
  | _=>simp [qae] at h
 | .list c l o,p2,obs,v0,v,h,ho,r0,r2=>by
  cases o with
  | some x=>
   obtain ⟨i,s⟩:=x
   cases p2 with
   | list c' l' o'=>
    cases o' with
    | none=>simp [qae] at h
    | some y=>
     obtain ⟨i',s'⟩:=y
     simp only [qae] at h
     rcases z9 h with ⟨_,h1⟩ | ⟨h1,h2⟩
     .cases h1
     .simp only [zA] at h1
      obtain ⟨⟨e1,e2⟩,e3⟩:=h1
      have:=zE e1
      subst this
      have:=zE e2
      subst this
      split at h2
      .rename_i hcc
       subst hcc
       cases h2
       have:l=l':=ho _ zC
       subst this
       exact q2d ok2 hle hle2 (qv1 how e3) hg hM r0 r2
      .cases h2
   | _=>simp [qae] at h
  | none=>
   cases p2 with
   | list c' l' o'=>
    cases o' with
    | some x=>simp [qae] at h
    | none=>
     simp only [qae] at h
     split at h
     .rename_i hcc
      subst hcc
      cases h
      have:l=l':=ho _ zC
      subst this
      exact r2.plain ok2.plain hg (fun _ _ _ hm=>by rw [hM];exact hm) .list
     .cases h
   | _=>simp [qae] at h
 | .nils,p2,obs,v0,v,h,ho,r0,r2=>by
  cases p2 with
  | nils=>cases r2;exact .nils
  | _=>simp [qae] at h
 | .cell i o l,p2,obs,v0,v,h,ho,r0,r2=>by
  cases p2 with
  | cell i' o' l'=>
   simp only [qae] at h
   rcases z9 h with ⟨_,h1⟩ | ⟨h1,_⟩
   .cases h1
   .simp only [zA] at h1
    have e1:=zE h1.1.1
    have e2:=zE h1.1.2
    have e3:=zE h1.2
    subst e1;subst e2;subst e3
    cases r0 with
    | cell hi=>
     cases r2 with
     | cell hi2=>
      rw [<-hc i hi]
      exact .cell (zL hi hle.n)
  | _=>simp [qae] at h
 | .eptr cs o,p2,obs,v0,v,h,ho,r0,r2=>by cases p2<;>simp [qae] at h
 | .mlist i c fx n,p2,obs,v0,v,h,ho,r0,r2=>by
  cases p2 with
  | mlist i' c' fx' n'=>
   simp only [qae] at h
   rcases z9 h with ⟨_,h1⟩ | ⟨h1,h2⟩
   .cases h1
   .simp only [zA] at h1
    have:=zE h1.1.1
    subst this
    have:=zE h1.1.2
    subst this
    have:=eq_of_beq h1.2
    subst this
    cases h2
    have:n=n':=ho _ zC
    subst this
    have hi:i<w0.n:=by cases r0;assumption
    cases r2 with
    | mlist h3 h4 h5=>
     rw [<-hc i hi]
     exact .mlist (zL hi hle.n) h4 h5
  | _=>simp [qae] at h
 | .nilp,p2,obs,v0,v,h,ho,r0,r2=>by
  cases p2 with
  | nilp=>cases r2;exact .nilp
  | _=>simp [qae] at h
 | .func f a c,p2,obs,v0,v,h,ho,r0,r2=>by
  cases p2 with
  | func f' a' c'=>
   simp only [qae] at h
   rcases z9 h with ⟨_,h1⟩ | ⟨h1,h2⟩
   .cases h1
   .have e1:=zE h1
    subst e1
    obtain ⟨x,hx1,hx2⟩:=zI.1 h2
    obtain ⟨y,hy1,hy2⟩:=zM.1 hx2
    subst hy2
    cases r0 with
    | @func _ _ _ va vc q1 q2 q3 q4=>
     cases r2 with
     | @func _ _ _ va' vc' p1 p2 p3 p4=>
      have g1:=qh3 hx ok2 hle hle2 how hc hg hM a a' hx1 (fun q hq=>ho q (List.mem_append_left _ hq)) ⟨q1,q3⟩ ⟨p1,p3⟩
      have g2:=qh3 hx ok2 hle hle2 how hc hg hM c c' hy1 (fun q hq=>ho q (List.mem_append_right _ hq)) ⟨q2,q4⟩ ⟨p2,p4⟩
      exact .func g1.1 g2.1 g1.2 g2.2
  | _=>simp [qae] at h
 | .nilf,p2,obs,v0,v,h,ho,r0,r2=>by
  cases p2 with
  | nilf=>cases r2;exact .nilf
  | _=>simp [qae] at h
 | .yield i,p2,obs,v0,v,h,ho,r0,r2=>by
  cases p2 with
  | yield i'=>
   simp only [qae] at h
   rcases z9 h with ⟨_,h1⟩ | ⟨h1,_⟩
   .cases h1
   .have:=zE h1
    subst this
    have hi:i<w0.n:=by cases r0;assumption
    cases r2 with
    | yield h3=>
     rw [<-hc i hi]
     exact .yield (zL hi hle.n)
  | _=>simp [qae] at h
 | .map i,p2,obs,v0,v,h,ho,r0,r2=>by
  cases p2 with
  | map i'=>
   simp only [qae] at h
   rcases z9 h with ⟨_,h1⟩ | ⟨h1,_⟩
   .cases h1
   .have:=zE h1
    subst this
    have hi:i<w0.n:=by cases r0;assumption
    cases r2 with
    | map h3=>
     rw [<-hc i hi]
     exact .map (zL hi hle.n)
  | _=>simp [qae] at h
 | .iface t q,p2,obs,v0,v,h,ho,r0,r2=>by cases p2<;>simp [qae] at h
 | .nili,p2,obs,v0,v,h,ho,r0,r2=>by
  cases p2 with
  | nili=>cases r2;exact .nili
  | _=>simp [qae] at h
 | .agg cs,p2,obs,v0,v,h,ho,r0,r2=>by cases p2<;>simp [qae] at h
 | .tuple cs,p2,obs,v0,v,h,ho,r0,r2=>by cases p2<;>simp [qae] at h
theorem qh3 (hx:∀ c x,(X.cells c x).length=sz c) (ok2:CfgOk2 X C) (hle:Le w0 w1) (hle2:Le w0 w2) (how:∀ i,w2.owns i=look st2.owns i) (hc:∀ id,id<w0.n->w1.c id=w2.c id) (hg:w1.g=w2.g) (hM:w1.M=w2.M):∀ (ps p2s:List (PV K)) {obs:List Prop} {vs0 vs:List V},
  qmf (qo X tbl inv meas) st2 ps p2s=some obs->(∀ q ∈ obs,q)->qu X sz w0 ps vs0->qu X sz w2 p2s vs->qu X sz w1 ps vs
 | [],[],obs,vs0,vs,h,ho,r0,r2=>by rw [r2.km];exact .nil
 | [],_::_,obs,vs0,vs,h,ho,r0,r2=>by simp [qmf] at h
 | _::_,[],obs,vs0,vs,h,ho,r0,r2=>by simp [qmf] at h
 | p::ps,p2::p2s,obs,vs0,vs,h,ho,r0,r2=>by
  simp only [qmf] at h
  obtain ⟨x,hx1,hx2⟩:=zI.1 h
  obtain ⟨y,hy1,hy2⟩:=zM.1 hx2
  subst hy2
  obtain ⟨v0,vs0',rfl,a1,a2⟩:=r0.kc
  obtain ⟨v,vs',rfl,b1,b2⟩:=r2.kc
  exact .cons (qs0 hx ok2 hle hle2 how hc hg hM p p2 hx1 (fun q hq=>ho q (List.mem_append_left _ hq)) a1 b1) (qh3 hx ok2 hle hle2 how hc hg hM ps p2s hy1 (fun q hq=>ho q (List.mem_append_right _ hq)) a2 b2)
end
def q9v (fr2:Fr) (H2:Heap) (w2:Wd):RSlot->List V->Prop
 | .one t _,vs=>∃ v,fr2.tmp t=some v/\vs=[v]
 | .agg t _,vs=>fr2.tmp t=some (.agg vs)
 | .var id _,vs=>w2.M (w2.c id)/\∃ e ex,H2.get (w2.c id)=some (.row vs e 0 0 0 ex)
 | .ml ..,_=>False
 | .it ..,_=>False
def Good (w0 w2 w':Wd):Prop:=Le w0 w'/\w'.g=w2.g/\w'.M=w2.M/\w'.c=w2.c
def q7d (X:Codecs K) (sz:Nat->Nat) (st0:StV K) (fr2:Fr) (H2:Heap) (w0 w2:Wd) (s:RSlot):Prop:=
 ∀ x,qa6 st0 s=some x->∀ vs,q9v fr2 H2 w2 s vs->∀ (i:Nat) (p:PV K),x.1[i]? = some .keep->x.2[i]? = some p->∀ w',Le w0 w'->w'.g=w2.g->w'.M=w2.M->Rep X sz w' p (vs.getD i kz)
def qnl (X:Codecs K) (sz:Nat->Nat) (H2:Heap) (w2 w1:Wd) (id:Nat) (ct:ZT K):Prop:=w2.M (w2.c id)/\∀ w',Le w1 w'->qaw X sz w' id ct (H2.get (w2.c id))
theorem q2l {A B:StV K} {s:RSlot} {x y:List SK×List (PV K)} (h1:qa6 A s=some x) (h2:qa6 B s=some y):x.1=y.1:=by
 cases s with
 | one t k=>
  simp only [qa6] at h1 h2
  obtain ⟨_,_,rfl⟩:=zM.1 h1
  obtain ⟨_,_,rfl⟩:=zM.1 h2
  rfl
 | agg t ks=>
  simp only [qa6] at h1 h2
  split at h1
  .split at h2
   .cases h1;cases h2;rfl
   .cases h2
  .cases h1
 | var id ks=>
  simp only [qa6] at h1 h2
  obtain ⟨_,_,rfl⟩:=zM.1 h1
  obtain ⟨_,_,rfl⟩:=zM.1 h2
  rfl
 | ml id c=>simp [qa6] at h1
 | it id=>simp [qa6] at h1
theorem qm0 (R2:Rel X sz C base st2 fr2 H2 w2) {s:RSlot} {y:List SK×List (PV K)} (h:qa6 st2 s=some y):∃ vs,q9v fr2 H2 w2 s vs/\qu X sz w2 y.2 vs:=by
 cases s with
 | one t k=>
  simp only [qa6] at h
  obtain ⟨p,h1,rfl⟩:=zM.1 h
  obtain ⟨v,hv,hr⟩:=R2.f t p h1
  exact ⟨[v],⟨v,hv,rfl⟩,.cons hr .nil⟩
 | agg t ks=>
  simp only [qa6] at h
  split at h
  .rename_i cs h1
   cases h
   obtain ⟨v,hv,hr⟩:=R2.f t _ h1
   obtain ⟨vs,rfl,hl⟩:=hr.qek
   exact ⟨vs,hv,hl⟩
  .cases h
 | var id ks=>
  simp only [qa6] at h
  obtain ⟨ps,h1,rfl⟩:=zM.1 h
  obtain ⟨_,hM,vs,e,ex,hg,_,hr⟩:=R2.h.cells id _ (qe0 h1)
  exact ⟨vs,⟨hM,e,ex,hg⟩,hr⟩
 | ml id c=>simp [qa6] at h
 | it id=>simp [qa6] at h
theorem qcb (ok:CfgOk X sz C) (ok2:CfgOk2 X C) (R2:Rel X sz C base st2 fr2 H2 w2):∀ {slots:List RSlot} {ns:List (NV K)} {st1:StV K} {w1:Wd} {G:List (NV K)->StV K->Prop},
  qcq (qo X tbl inv meas) st2 slots=some ns->(∀ s ∈ slots,q7d X sz st0 fr2 H2 w0 w2 s)->Part X sz base st0 w0 st2 H2 w2 st1 w1 (ka st2 slots)->q3l X sz w1 st1.tmps fr2->
  (∀ id ps,look st1.cells id=some ps->id ∈ qeb slots∨qnl X sz H2 w2 w1 id ps)->(∀ id,(look st1.cells id).isSome=(look st0.cells id).isSome)->qbr (qo X tbl inv meas) st0 slots st1 G->
  ∃ st1' w1',G ns st1'/\Part X sz base st0 w0 st2 H2 w2 st1' w1' []/\q3l X sz w1' st1'.tmps fr2/\(∀ id ps,look st1'.cells id=some ps->qnl X sz H2 w2 w1' id ps)/\(∀ id,(look st1'.cells id).isSome=(look st0.cells id).isSome)/\st1'.n=st1.n
 | [],ns,st1,w1,G,hN,hK,m,hT,hC,hD,h=>by
  simp only [qcq,zS] at hN
  subst hN
  exact ⟨st1,w1,h,m,hT,fun id ps hl=>(hC id ps hl).elim (fun hv=>by simp [qeb] at hv) (fun h=>h),hD,rfl⟩
 | s::slots,ns,st1,w1,G,hN,hK,m,hT,hC,hD,h=>by
  by_cases hmm:∃ id c,s=.ml id c
  .obtain ⟨id,c,rfl⟩:=hmm
   simp only [qcq] at hN
   obtain ⟨l2,hl2,hN1⟩:=zI.1 hN
   obtain ⟨ns',hN3,rfl⟩:=zM.1 hN1
   simp only [qbr] at h
   obtain ⟨l0,hl0,h1⟩:=qb h
   have g1:=h1 l2
   have hlk2:=qe1 hl2
   obtain ⟨_,hM,vs,e,ex,hg,_,hr⟩:=R2.h.cells id _ hlk2
   have hids:ka st2 (.ml id c::slots)=ka st2 slots:=rfl
   rw [hids] at m
   have hr1:qu X sz w1 (qln X (.ml c l2)) vs:=by
    refine ⟨hr.1,fun j p hp=>m.move ok2 (hr.2 j p hp) ?_⟩
    obtain ⟨x,_,hx⟩:=List.mem_flatMap.1 (List.mem_of_getElem? hp)
    exact ok2.plain c x p hx
   have m2:Part X sz base st0 w0 st2 H2 w2 {st1 with cells:=qeh st1.cells id (.ml c l2)} w1 (ka st2 slots):=⟨m.g,m.M,m.ce,m.nx,m.c,m.cl,m.n,m.le,m.nxt,m.known,m.owns,m.ownn,m.eta,m.einj,m.pends,m.pdist⟩
   have hC2:∀ id' ps,look (qeh st1.cells id (.ml c l2)) id'=some ps->id' ∈ qeb slots∨qnl X sz H2 w2 w1 id' ps:=by
    intro id' ps hl
    rw [qc2] at hl
    by_cases hi:id'=id
    .rw [zT hi] at hl
     cases hl
     subst hi
     exact .inr ⟨hM,fun w' hw=>⟨vs,e,ex,hg,trivial,hr1.mono ok.len hw⟩⟩
    .rw [zF hi] at hl
     rcases hC id' ps hl with h1 | h1
     .simp only [qeb,zD] at h1
      rcases h1 with h1 | h1
      .exact absurd h1 hi
      .exact .inl h1
     .exact .inr h1
   have hD2:∀ id',(look (qeh st1.cells id (.ml c l2)) id').isSome=(look st0.cells id').isSome:=by
    intro id'
    rw [qc2]
    by_cases hi:id'=id
    .rw [zT hi,hi,qe1 hl0];rfl
    .rw [zF hi];exact hD id'
   obtain ⟨st3,w3,b1,b2,b3,b4,b5,b6⟩:=qcb ok ok2 R2 hN3 (fun s' hs'=>hK s' (zG _ hs')) m2 hT hC2 hD2 g1
   exact ⟨st3,w3,b1,b2,b3,b4,b5,b6⟩
  have hml':∀ id c,s=.ml id c->False:=fun id c he=>hmm ⟨id,c,he⟩
  by_cases hmi:∃ id,s=.it id
  .obtain ⟨id,rfl⟩:=hmi
   simp only [qcq] at hN
   obtain ⟨l2,hl2,hN1⟩:=zI.1 hN
   obtain ⟨ns',hN3,rfl⟩:=zM.1 hN1
   simp only [qbr] at h
   obtain ⟨l0,hl0,h1⟩:=qb h
   have g1:=h1 l2.1 l2.2
   have hlk2:=qkq hl2
   obtain ⟨_,hM,pos,hpos,hg⟩:=R2.h.cells id _ hlk2
   have hids:ka st2 (.it id::slots)=ka st2 slots:=rfl
   rw [hids] at m
   have m2:Part X sz base st0 w0 st2 H2 w2 {st1 with cells:=qeh st1.cells id (.si l2.1 l2.2)} w1 (ka st2 slots):=⟨m.g,m.M,m.ce,m.nx,m.c,m.cl,m.n,m.le,m.nxt,m.known,m.owns,m.ownn,m.eta,m.einj,m.pends,m.pdist⟩
   have hC2:∀ id' ps,look (qeh st1.cells id (.si l2.1 l2.2)) id'=some ps->id' ∈ qeb slots∨qnl X sz H2 w2 w1 id' ps:=by
    intro id' ps hl
    rw [qc2] at hl
    by_cases hi:id'=id
    .rw [zT hi] at hl
     cases hl
     subst hi
     exact .inr ⟨hM,fun w' hw=>⟨pos,hpos,hg⟩⟩
    .rw [zF hi] at hl
     rcases hC id' ps hl with h1 | h1
     .simp only [qeb,zD] at h1
      rcases h1 with h1 | h1
      .exact absurd h1 hi
      .exact .inl h1
     .exact .inr h1
   have hD2:∀ id',(look (qeh st1.cells id (.si l2.1 l2.2)) id').isSome=(look st0.cells id').isSome:=by
    intro id'
    rw [qc2]
    by_cases hi:id'=id
    .rw [zT hi,hi,qkq hl0];rfl
    .rw [zF hi];exact hD id'
   obtain ⟨st3,w3,b1,b2,b3,b4,b5,b6⟩:=qcb ok ok2 R2 hN3 (fun s' hs'=>hK s' (zG _ hs')) m2 hT hC2 hD2 g1
   exact ⟨st3,w3,b1,b2,b3,b4,b5,b6⟩
  have hit':∀ id,s=.it id->False:=fun id he=>hmi ⟨id,he⟩
  simp only [qcq] at hN
  obtain ⟨y,hy,hN1⟩:=zI.1 hN
  obtain ⟨a,ha,hN2⟩:=zI.1 hN1
  obtain ⟨ns',hN3,rfl⟩:=zM.1 hN2
  simp only [qbr] at h
  split at h
  .exact absurd h id
  .rename_i x hx
   obtain ⟨vs,hvs,hr⟩:=qm0 R2 hy
   have hk:=q2l hx hy
   rw [<-hk] at ha
   have hids:ka st2 (s::slots)=jy x.1 y.2++ka st2 slots:=by
    simp only [ka,hy]
    rw [hk]
   rw [hids] at m
   obtain ⟨qs,st1',w1',g1,g2,g3,g4,g5,g6,g7⟩:=qep ok ok2 R2.h ha hr (hK s zC x hx vs hvs) m h
   have hT':q3l X sz w1' st1'.tmps fr2:=by
    intro i p hp
    rw [g5] at hp
    obtain ⟨v,h1,h2⟩:=hT i p hp
    exact ⟨v,h1,h2.mono ok.len g3⟩
   have hC':∀ id ps,look st1'.cells id=some ps->id ∈ qeb (s::slots)∨qnl X sz H2 w2 w1' id ps:=by
    intro id ps hl
    rw [g7] at hl
    rcases hC id ps hl with h1 | ⟨h0,h1⟩
    .exact .inl h1
    .exact .inr ⟨h0,fun w' hw=>h1 w' (g3.trans hw)⟩
   have hD':∀ id,(look st1'.cells id).isSome=(look st0.cells id).isSome:=by
    intro id
    rw [g7]
    exact hD id
   have hK':∀ s' ∈ slots,q7d X sz st0 fr2 H2 w0 w2 s':=fun s' hs'=>hK s' (zG _ hs')
   cases s with
   | ml id c=>exact absurd ⟨id,c,rfl⟩ hmm
   | it id=>exact absurd ⟨id,rfl⟩ hmi
   | one t k=>
    simp only at g1
    split at g1
    .rename_i q
     obtain ⟨v,hv,rfl⟩:=hvs
     obtain ⟨v',_,he,hq,_⟩:=g4.kc
     cases he
     have m2:Part X sz base st0 w0 st2 H2 w2 {st1' with tmps:=st1'.tmps.set t q} w1' (ka st2 slots):=⟨g2.g,g2.M,g2.ce,g2.nx,g2.c,g2.cl,g2.n,g2.le,g2.nxt,g2.known,g2.owns,g2.ownn,g2.eta,g2.einj,g2.pends,g2.pdist⟩
     have hT2:q3l X sz w1' (st1'.tmps.set t q) fr2:=by
      intro i p hp
      rw [Tree.kq] at hp
      by_cases hi:i=t
      .rw [zT hi] at hp
       cases hp
       subst hi
       exact ⟨v,hv,hq⟩
      .rw [zF hi] at hp
       exact hT' i p hp
     obtain ⟨st3,w3,b1,b2,b3,b4,b5,b6⟩:=qcb ok ok2 R2 hN3 hK' m2 hT2 hC' hD' g1
     exact ⟨st3,w3,b1,b2,b3,b4,b5,b6.trans g6⟩
    .exact absurd g1 id
   | agg t ks=>
    simp only at g1
    have m2:Part X sz base st0 w0 st2 H2 w2 {st1' with tmps:=st1'.tmps.set t (.agg qs)} w1' (ka st2 slots):=⟨g2.g,g2.M,g2.ce,g2.nx,g2.c,g2.cl,g2.n,g2.le,g2.nxt,g2.known,g2.owns,g2.ownn,g2.eta,g2.einj,g2.pends,g2.pdist⟩
    have hT2:q3l X sz w1' (st1'.tmps.set t (.agg qs)) fr2:=by
     intro i p hp
     rw [Tree.kq] at hp
     by_cases hi:i=t
     .rw [zT hi] at hp
      cases hp
      subst hi
      exact ⟨_,hvs,.qqi g4⟩
     .rw [zF hi] at hp
      exact hT' i p hp
    obtain ⟨st3,w3,b1,b2,b3,b4,b5,b6⟩:=qcb ok ok2 R2 hN3 hK' m2 hT2 hC' hD' g1
    exact ⟨st3,w3,b1,b2,b3,b4,b5,b6.trans g6⟩
   | var id ks=>
    simp only at g1
    have m2:Part X sz base st0 w0 st2 H2 w2 {st1' with cells:=qeh st1'.cells id (.cs none qs)} w1' (ka st2 slots):=⟨g2.g,g2.M,g2.ce,g2.nx,g2.c,g2.cl,g2.n,g2.le,g2.nxt,g2.known,g2.owns,g2.ownn,g2.eta,g2.einj,g2.pends,g2.pdist⟩
    obtain ⟨hM0,e,ex,hg⟩:=hvs
    have hC2:∀ id' ps,look (qeh st1'.cells id (.cs none qs)) id'=some ps->id' ∈ qeb slots∨qnl X sz H2 w2 w1' id' ps:=by
     intro id' ps hl
     rw [qc2] at hl
     by_cases hi:id'=id
     .rw [zT hi] at hl
      cases hl
      subst hi
      exact .inr ⟨hM0,fun w' hw=>⟨vs,e,ex,hg,trivial,g4.mono ok.len hw⟩⟩
     .rw [zF hi] at hl
      rcases hC' id' ps hl with h1 | h1
      .simp only [qeb,zD] at h1
       rcases h1 with h1 | h1
       .exact absurd h1 hi
       .exact .inl h1
      .exact .inr h1
    have hsome:(look st0.cells id).isSome=true:=by
     simp only [qa6] at hx
     obtain ⟨ps,h1,_⟩:=zM.1 hx
     rw [qe0 h1];rfl
    have hD2:∀ id',(look (qeh st1'.cells id (.cs none qs)) id').isSome=(look st0.cells id').isSome:=by
     intro id'
     rw [qc2]
     by_cases hi:id'=id
     .rw [zT hi,hi,hsome];rfl
     .rw [zF hi];exact hD' id'
    obtain ⟨st3,w3,b1,b2,b3,b4,b5,b6⟩:=qcb ok ok2 R2 hN3 hK' m2 hT' hC2 hD2 g1
    exact ⟨st3,w3,b1,b2,b3,b4,b5,b6.trans g6⟩
theorem qss (A:znw K):∀ {ks:List SK} {ps:List (PV K)} {ns:List (NV K)} {i:Nat},qk9 A st2 ks ps=some ns->i ∈ jy ks ps->∃ s,look st2.owns i=some s
 | [],ps,ns,i,_,h=>by cases ps<;>simp [jy] at h
 | _::_,[],ns,i,h,_=>by simp [qk9] at h
 | k::ks,p::ps,ns,i,h,hi=>by
  simp only [qk9] at h
  obtain ⟨a,h1,h2⟩:=zI.1 h
  obtain ⟨r,h3,_⟩:=zM.1 h2
  have ih:i ∈ jy ks ps->∃ s,look st2.owns i=some s:=qss A h3
  cases k with
  | list c own nb=>
   cases own with
   | false=>
    have e:jy (.list c false nb::ks) (p::ps)=jy ks ps:=by cases p<;>rfl
    rw [e] at hi
    exact ih hi
   | true=>
    cases p with
    | list c' l o=>
     cases o with
     | none=>exact ih hi
     | some x=>
      obtain ⟨j,s⟩:=x
      simp only [jy,zD] at hi
      rcases hi with rfl | hi
      .simp only [qrp] at h1
       rcases z9 h1 with ⟨hb,_⟩ | ⟨_,hb⟩
       .simp only [Bool.true_and] at hb
        simp only [qdc] at hb
        split at hb
        .rename_i s' hs;exact ⟨s',hs⟩
        .cases hb
       .cases hb
      .exact ih hi
    | _=>exact ih hi
  | _=>exact ih hi
theorem qfq (A:znw K):∀ {slots:List RSlot} {ns:List (NV K)} {i:Nat},qcq A st2 slots=some ns->i ∈ ka st2 slots->∃ s,look st2.owns i=some s
 | [],ns,i,_,h=>by simp [ka] at h
 | s::slots,ns,i,h,hi=>by
  by_cases hmm:∃ id c,s=.ml id c
  .obtain ⟨id,c,rfl⟩:=hmm
   simp only [qcq] at h
   obtain ⟨y,hy,h1⟩:=zI.1 h
   obtain ⟨r,hr,_⟩:=zM.1 h1
   exact qfq A hr hi
  have hml':∀ id c,s=.ml id c->False:=fun id c he=>hmm ⟨id,c,he⟩
  by_cases hmi:∃ id,s=.it id
  .obtain ⟨id,rfl⟩:=hmi
   simp only [qcq] at h
   obtain ⟨y,hy,h1⟩:=zI.1 h
   obtain ⟨r,hr,_⟩:=zM.1 h1
   exact qfq A hr hi
  have hit':∀ id,s=.it id->False:=fun id he=>hmi ⟨id,he⟩
  simp only [qcq] at h
  obtain ⟨y,hy,h1⟩:=zI.1 h
  obtain ⟨a,ha,h2⟩:=zI.1 h1
  obtain ⟨r,hr,_⟩:=zM.1 h2
  simp only [ka,hy,List.mem_append] at hi
  rcases hi with hi | hi
  .exact qss A ha hi
  .exact qfq A hr hi
theorem qvw (ok:CfgOk X sz C) (ok2:CfgOk2 X C) (R0:Rel X sz C base st0 fr0 H0 w0) (R2:Rel X sz C base st2 fr2 H2 w2) (hle:Le w0 w2) {ds:List Nat} {slots:List RSlot} {ns:List (NV K)} {G:List (NV K)->StV K->Prop}
  (hn:st2.n=st0.n) (hfr:∀ t,t ∉ ds->fr2.tmp t=fr0.tmp t) (hN:qcq (qo X tbl inv meas) st2 slots=some ns) (hK:∀ s ∈ slots,q7d X sz st0 fr2 H2 w0 w2 s)
  (hC:∀ id ps,look st0.cells id=some ps->id ∈ qeb slots∨∀ w',Good w0 w2 w'->qnl X sz H2 w2 w' id ps)
  (hret:∀ i s,look (qda st0 ds slots).owns i=some s->look st2.owns i=some s) (hsep:∀ i ∈ ka st2 slots,look (qda st0 ds slots).owns i=none) (hdist:distinct (ka st2 slots)=true)
  (h:qbr (qo X tbl inv meas) st0 slots (qda st0 ds slots) G):∃ st1 w1,G ns st1/\Rel X sz C base st1 fr2 H2 w1/\Le w0 w1/\st1.n=st0.n:=by
 have howns:∀ i,look (qda st0 ds slots).owns i=if i ∈ ka st0 slots then none else look st0.owns i:=fun i=>qkr
 have hsub:∀ i s,look (qda st0 ds slots).owns i=some s->look st0.owns i=some s:=by
  intro i s hi
  rw [howns] at hi
  split at hi
  .cases hi
  .exact hi
 let w1:Wd:={w2 with n:=st0.next,owns:=look (qda st0 ds slots).owns,cl:=fun id=>w2.cl id/\id<st0.next}
 have hn0:w0.n=st0.next:=R0.h.n
 have hle1:Le w0 w1:=by
  refine ⟨⟨by rw [hn0];exact zN _,hle.mem,hle.c,hle.nu,fun i hi h0=>?_,fun i s s' hi h0 h1=>?_,fun i s hi h0 h1=>?_,hle.ce,fun id hi=>⟨fun hh=>(hle.cl id hi).1 hh.1,fun hh=>⟨(hle.cl id hi).2 hh,by rw [<-hn0];exact hi⟩⟩,hle.nx,hle.b,hle.Mu,hle.lp⟩,hle.df,hle.fl⟩
  .rw [R0.h.owns] at h0
   show look (qda st0 ds slots).owns i=none
   rw [howns,h0]
   split<;>rfl
  .rw [R0.h.owns] at h0
   have:=hsub i s' h1
   rw [h0] at this
   cases this
   exact zN _
  .have h2:w2.owns i=some s:=by rw [R2.h.owns];exact hret i s h1
   exact hle.o3 i s hi h0 h2
 have m:Part X sz base st0 w0 st2 H2 w2 (qda st0 ds slots) w1 (ka st2 slots):=by
  refine ⟨rfl,rfl,rfl,rfl,rfl,fun _=>.rfl,rfl,hle1,zN _,rfl,rfl,fun i s hi=>R0.h.ownn i s (hsub i s hi),fun i s nm hi he=>R2.h.eta i s nm (hret i s hi) he,fun i j s s' nm h1 h2 e1 e2=>R2.h.einj i j s s' nm (hret i s h1) (hret j s' h2) e1 e2,fun i2 hi2=>⟨qfq _ hN hi2,fun nm hnm j s hj he=>?_⟩,qfc hdist⟩
  obtain ⟨s2,hs2⟩:=qfq _ hN hi2
  have:=R2.h.einj i2 j s2 s nm hs2 (hret j s hj) hnm he
  subst this
  rw [hsep i2 hi2] at hj
  cases hj
 have hT:q3l X sz w1 (qda st0 ds slots).tmps fr2:=by
  intro t p hp
  have hp':(qqq ds st0.tmps).get t=some p:=hp
  rw [qvs] at hp'
  split at hp'
  .cases hp'
  .rename_i ht
   obtain ⟨v,h1,h2⟩:=R0.f t p hp'
   exact ⟨v,by rw [hfr t ht];exact h1,h2.mono ok.len hle1⟩
 have hgood:Good w0 w2 w1:=⟨hle1,rfl,rfl,rfl⟩
 obtain ⟨st1,w3,g1,g2,g3,g4,g5,g6⟩:=qcb ok ok2 R2 hN hK m hT (fun id ps hl=>(hC id ps hl).imp_right fun hh=>hh w1 hgood) (fun _=>rfl) h
 have hds:q24 base.next w3 fr2.defers:=by
  have hfl:w3.fl=w2.fl:=g2.le.fl.trans hle.fl.symm
  refine ⟨fun x hx=>?_,R2.ds.2.1,by rw [hfl,g2.nx];exact R2.ds.2.2⟩
  obtain ⟨m,h1,h2,h3,h4⟩:=R2.ds.1 x hx
  exact ⟨m,h1,h2,by rw [hfl];exact h3,by rw [g2.g];exact h4⟩
 refine ⟨st1,w3,g1,⟨?_,g3,?_,hds⟩,g2.le,g6⟩
 .have hcl0:∀ id,(look st1.cells id).isSome=true->w0.cl id/\id<st0.next:=by
   intro id hs
   rw [g5] at hs
   obtain ⟨ps,hps⟩:=Option.isSome_iff_exists.1 hs
   obtain ⟨q1,q2,_⟩:=R0.h.cells id ps hps
   exact ⟨q1,(R0.h.cl id q1).1⟩
  refine ⟨R2.h.wf,R2.h.rob,g2.g.trans R2.h.g,g2.nx.trans R2.h.nx,g2.le.b.trans R0.h.b,fun n hM=>R2.h.Mlt n (by rw [<-g2.M];exact hM),g2.n,zR R0.h.one g2.nxt,R2.h.keeps,fun id hc=>?_,fun id id' h1 h2 he=>?_,fun id ps hl=>?_,fun i=>by rw [g2.owns],g2.ownn,fun i s nm h1 h2=>?_,g2.einj,g2.ce.trans R2.h.ce,fun id b hk=>?_,fun gn ps hg=>?_⟩
  .obtain ⟨c1,c2⟩:=(g2.cl id).1 hc
   obtain ⟨q1,q2,q3⟩:=R2.h.cl id c1
   exact ⟨zL c2 g2.nxt,by rw [g2.c];exact q2,by rw [g2.c];exact q3⟩
  .rw [g2.c] at he
   exact R2.h.cinj id id' ((g2.cl id).1 h1).1 ((g2.cl id').1 h2).1 he
  .obtain ⟨q1,q2⟩:=hcl0 id (by rw [hl];rfl)
   have hi:id<w0.n:=by rw [hn0];exact q2
   obtain ⟨a0,a1⟩:=g4 id ps hl
   refine ⟨(g2.cl id).2 ⟨(hle.cl id hi).2 q1,q2⟩,by rw [g2.c,g2.M];exact a0,by rw [g2.c];exact a1 w3 (.refl w3)⟩
  .obtain ⟨q1,q2,q3⟩:=g2.eta i s nm h1 h2
   exact ⟨q1,q2,by rw [g2.M];exact q3⟩
  .rw [g2.known] at hk
   obtain ⟨q0,q1,q2⟩:=R0.h.known id b hk
   exact ⟨q0,zL q1 g2.nxt,by rw [g2.le.nu id (by rw [hn0];exact q1)];exact q2⟩
  .obtain ⟨q0,vs',e',fl,fz,ex',q1,q2,q3⟩:=R0.h.globs gn ps hg
   exact ⟨q0,vs',e',fl,fz,ex',q1,q2,q3.mono ok.len g2.le⟩
 .rw [R2.n,hn,g6]
  rfl
end
end Go.E3
/- E3: CODE against E2's. -/
namespace Go.E3
open Go Go.E2
variable {K:Nat->Type}
section
variable {X:Codecs K} {sz:Nat->Nat} {C:ZC K} {base:Heap}
variable {tbl:Tbl K} {inv:Nat->List (NV K)->Prop} {meas:Nat->List (NV K)->Nat} {inl:ZI K}
theorem q6e {fr2:Fr} {H2:Heap} {w2:Wd} {s:RSlot} {vs us:List V} (h1:q9v fr2 H2 w2 s vs) (h2:q9v fr2 H2 w2 s us):vs=us:=by
 cases s with
 | one t k=>
  obtain ⟨v,a,rfl⟩:=h1
  obtain ⟨u,b,rfl⟩:=h2
  rw [a] at b
  cases b
  rfl
 | agg t ks=>
  have a:fr2.tmp t=some (.agg vs):=h1
  have b:fr2.tmp t=some (.agg us):=h2
  rw [a] at b
  cases b
  rfl
 | var id ks=>
  obtain ⟨_,e,ex,a⟩:=h1
  obtain ⟨_,e',ex',b⟩:=h2
  rw [a] at b
  cases b
  rfl
 | ml id c=>exact False.elim h1
 | it id=>exact False.elim h1
theorem qpk {st0 st2:StV K}:∀ {ks:List SK} {as bs:List (PV K)} {obs:List Prop},qkn (qo X tbl inv meas) st2 ks as bs=some obs->(∀ q ∈ obs,q)->∀ (i:Nat) (p:PV K),ks[i]? = some .keep->as[i]? = some p->
  ∃ p2 o,bs[i]? = some p2/\qae (qo X tbl inv meas) st2 p p2=some o/\∀ q ∈ o,q
 | [],as,bs,obs,h,ho,i,p,hk,ha=>by simp at hk
 | k::ks,[],bs,obs,h,ho,i,p,hk,ha=>by simp at ha
 | k::ks,a::as,[],obs,h,ho,i,p,hk,ha=>by cases k<;>simp [qkn] at h
 | k::ks,a::as,b::bs,obs,h,ho,i,p,hk,ha=>by
  have rest:∀ obs',qkn (qo X tbl inv meas) st2 ks as bs=some obs'->(∀ q ∈ obs',q)->∀ i',i=i'+1->∃ p2 o,(b::bs)[i]? = some p2/\qae (qo X tbl inv meas) st2 p p2=some o/\∀ q ∈ o,q:=by
   intro obs' h1 h2 i' hi
   subst hi
   obtain ⟨p2,o,e1,e2,e3⟩:=qpk (st0:=st0) (st2:=st2) h1 h2 i' p (by simpa using hk) (by simpa using ha)
   exact ⟨p2,o,by simpa using e1,e2,e3⟩
  cases k with
  | keep=>
   simp only [qkn] at h
   obtain ⟨x,hx,h1⟩:=zI.1 h
   obtain ⟨y,hy,rfl⟩:=zM.1 h1
   cases i with
   | zero=>
    simp only [List.getElem?_cons_zero,zS] at ha
    subst ha
    exact ⟨b,x,rfl,hx,fun q hq=>ho q (List.mem_append_left _ hq)⟩
   | succ i=>exact rest y hy (fun q hq=>ho q (List.mem_append_right _ hq)) i rfl
  | _=>
   have h':qkn (qo X tbl inv meas) st2 ks as bs=some obs:=h
   cases i with
   | zero=>simp at hk
   | succ i=>exact rest obs h' ho i rfl
theorem qen {st0 st2:StV K}:∀ {slots:List RSlot} {obs:List Prop},qd0 (qo X tbl inv meas) st0 st2 slots=some obs->(∀ q ∈ obs,q)->∀ s ∈ slots,((∃ id c,s=.ml id c)∨∃ id,s=.it id)∨∃ x y o,qa6 st0 s=some x/\qa6 st2 s=some y/\qkn (qo X tbl inv meas) st2 x.1 x.2 y.2=some o/\∀ q ∈ o,q
 | [],obs,_,_,s,hs=>by cases hs
 | s0::slots,obs,h,ho,s,hs=>by
  by_cases hmm:∃ id c,s0=.ml id c
  .obtain ⟨id,c,rfl⟩:=hmm
   simp only [qd0] at h
   rcases zD.1 hs with rfl | hs
   .exact .inl (.inl ⟨id,c,rfl⟩)
   .exact qen h ho s hs
  have hml':∀ id c,s0=.ml id c->False:=fun id c he=>hmm ⟨id,c,he⟩
  by_cases hmi:∃ id,s0=.it id
  .obtain ⟨id,rfl⟩:=hmi
   simp only [qd0] at h
   rcases zD.1 hs with rfl | hs
   .exact .inl (.inr ⟨id,rfl⟩)
   .exact qen h ho s hs
  have hit':∀ id,s0=.it id->False:=fun id he=>hmi ⟨id,he⟩
  simp only [qd0] at h
  obtain ⟨x,hx,h1⟩:=zI.1 h
  obtain ⟨y,hy,h2⟩:=zI.1 h1
  obtain ⟨a,ha,h3⟩:=zI.1 h2
  obtain ⟨r,hr,rfl⟩:=zM.1 h3
  rcases zD.1 hs with rfl | hs
  .exact .inr ⟨x,y,a,hx,hy,ha,fun q hq=>ho q (List.mem_append_left _ hq)⟩
  .exact qen hr (fun q hq=>ho q (List.mem_append_right _ hq)) s hs
theorem qhc {vias:List Nat} {st2:StV K}:∀ {l:List (Nat×ZT K)} {obs:List Prop},qh7 (qo X tbl inv meas) vias st2 l=some obs->(∀ q ∈ obs,q)->∀ id ct,(id,ct) ∈ l->id ∈ vias∨∃ o,qiz (qo X tbl inv meas) st2 id ct=some o/\∀ q ∈ o,q
 | [],obs,_,_,id,ps,h=>by cases h
 | (i,cs)::l,obs,h,ho,id,ps,hm=>by
  simp only [qh7] at h
  rcases z9 h with ⟨hb,h1⟩ | ⟨hb,h1⟩
  .obtain ⟨x,hx,h3⟩:=zI.1 h1
   obtain ⟨y,hy,rfl⟩:=zM.1 h3
   rcases zD.1 hm with he | hm
   .cases he
    exact .inr ⟨x,hx,fun q hq=>ho q (List.mem_append_left _ hq)⟩
   .exact qhc hy (fun q hq=>ho q (List.mem_append_right _ hq)) id ps hm
  .rcases zD.1 hm with he | hm
   .cases he
    obtain ⟨j,hj,hb2⟩:=List.any_eq_true.1 hb
    have:=zE hb2
    subst this
    exact .inl hj
   .exact qhc h1 ho id ps hm
theorem cond_prop {c:Bool} {p:Prop} (h:bif c then p else False):c=true/\p:=by
 cases c with
 | false=>exact absurd h id
 | true=>exact ⟨rfl,h⟩
theorem zm5 {t t':Option TypeId} {ps qs:List (PV K)} {e:TypeId} {ex:Bool} (h:zsc t t'=true) (h':qua (.cs t' qs) e ex):qua (.cs t ps) e ex:=by
 cases t with
 | none=>trivial
 | some a=>
  cases t' with
  | none=>cases h
  | some b=>
   have:=zE h
   subst this
   exact h'
theorem zdg {j:Nat} {seen:List (NV K)} {slots:List RSlot} {dec:Option (List (NV K))} {st0 hd st2:StV K} (h:qyq (qo X tbl inv meas) j seen slots dec st0 hd st2) :
  ∃ ns a b,qcq (qo X tbl inv meas) st2 slots=some ns/\qd0 (qo X tbl inv meas) st0 st2 slots=some a/\qh7 (qo X tbl inv meas) (qeb slots) st2 st0.cells=some b/\(∀ q ∈ a,q)/\(∀ q ∈ b,q)/\
   distinct (ka st2 slots)=true/\(∀ i ∈ ka st2 slots,look hd.owns i=none)/\(∀ i s,look hd.owns i=some s->look st2.owns i=some s)/\inv j (ns++seen)/\(∀ m,dec=some m->meas j (ns++seen)<meas j (m++seen)):=by
 unfold qyq at h
 split at h
 .rename_i ns a b hN hK hS
  obtain ⟨hb,h⟩:=cond_prop h
  simp only [zA] at hb
  obtain ⟨h1,h2⟩:=qov h
  obtain ⟨h3,h4⟩:=qov h2
  refine ⟨ns,a,b,hN,hK,hS,h1,h3,hb.1.1,fun i hi=>?_,fun i s hi=>?_,h4.1,fun m hm=>?_⟩
  .cases hl:look hd.owns i with
   | none=>rfl
   | some s=>
    have:=List.all_eq_true.1 hb.1.2 i hi
    simp only [Bool.not_eq_true',<-Bool.not_eq_true,List.any_eq_true] at this
    exact absurd ⟨(i,s),qfh hl,Nat.beq_refl i⟩ this
  .have:=List.all_eq_true.1 hb.2 (i,s) (qfh hi)
   simp only at this
   split at this
   .rename_i s' hs'
    have:=zE this
    rw [hs',this]
   .cases this
  .subst hm
   exact h4.2
 .exact absurd h id
theorem qze (ok:CfgOk X sz C) (ok2:CfgOk2 X C) {st0 st2:StV K} {fr0 fr2:Fr} {H0 H2:Heap} {w0 w2:Wd} (R0:Rel X sz C base st0 fr0 H0 w0) (R2:Rel X sz C base st2 fr2 H2 w2) (hle:Le w0 w2) {j:Nat} {seen:List (NV K)} {ds:List Nat} {slots:List RSlot} {dec:Option (List (NV K))}
  (hn:fr2.n=fr0.n) (hfr:∀ t,t ∉ ds->fr2.tmp t=fr0.tmp t) (hb:qyq (qo X tbl inv meas) j seen slots dec st0 (qda st0 ds slots) st2) :
  ∃ ns,inv j (ns++seen)/\(∀ m,dec=some m->meas j (ns++seen)<meas j (m++seen))/\∀ G:List (NV K)->StV K->Prop,qbr (qo X tbl inv meas) st0 slots (qda st0 ds slots) G->∃ st1 w1,G ns st1/\Rel X sz C base st1 fr2 H2 w1/\Le w0 w1/\st1.n=st0.n:=by
 obtain ⟨ns,a,b,hN,hK,hS,ha,hbb,hd,hsep,hret,hinv,hdec⟩:=zdg hb
 refine ⟨ns,hinv,hdec,fun G hG=>qvw ok ok2 R0 R2 hle (by rw [<-R2.n,hn,R0.n]) hfr hN (fun s hs=>?_) (fun id ps hl=>?_) hret hsep hd hG⟩
 .rcases qen hK ha s hs with (⟨id,c,rfl⟩ | ⟨id,rfl⟩) | ⟨x,y,o,hx,hy,ho,hq⟩
  .intro x' hx'
   simp [qa6] at hx'
  .intro x' hx'
   simp [qa6] at hx'
  intro x' hx' vs hvs i p hk hp w' h1 h2 h3
  rw [hx] at hx'
  cases hx'
  obtain ⟨p2,o2,hp2,hs2,ho2⟩:=qpk (st0:=st0) (st2:=st2) ho hq i p hk hp
  obtain ⟨vs0,_,r0⟩:=qm0 R0 hx
  obtain ⟨vs2,hvs2,r2⟩:=qm0 R2 hy
  have:=q6e hvs hvs2
  subst this
  obtain ⟨v0,_,q0⟩:=r0.get hp
  have q2:=r2.2 i p2 hp2
  exact qs0 ok.len ok2 h1 hle R2.h.owns (fun id hi=>by rw [h1.c id hi,hle.c id hi]) h2 h3 p p2 hs2 ho2 q0 q2
 .rcases qhc hS hbb id ps (qfh hl) with h1 | ⟨o,h2,h3⟩
  .exact .inl h1
  .right
   intro w' hg
   obtain ⟨g1,g2,g3,g4⟩:=hg
   obtain ⟨hcl0,_,r0⟩:=R0.h.cells id ps hl
   have hid0:id<w0.n:=by rw [R0.h.n];exact (R0.h.cl id hcl0).1
   cases ps with
   | lp r=>
    simp only [qiz] at h2
    split at h2
    .rename_i r' hl2
     rcases z9 h2 with ⟨_,h2⟩ | ⟨hm,_⟩
     .cases h2
     obtain ⟨_,hM,gg,p1,p2,_⟩:=R2.h.cells id _ hl2
     obtain ⟨gg0,q1,_,q3,q4,q5,q6,q7⟩:=r0
     have e1:gg=gg0:=by
      rw [hle.lp id hid0,q1] at p1
      exact (Option.some.inj p1).symm
     subst e1
     have e2:r'.mode=r.mode:=by
      revert hm
      cases r.mode<;>cases r'.mode<;>simp [q6a]
     refine ⟨hM,fun w'' hw=>⟨gg,?_,by rw [p2,e2],q3,q4,q5,q6,fun i p hp=>?_⟩⟩
     .rw [hw.lp id (zL hid0 g1.n),g1.lp id hid0]
      exact q1
     .obtain ⟨v,a,b⟩:=q7 i p hp
      exact ⟨v,a,b.mono ok.len (g1.trans hw)⟩
    .cases h2
   | cs t ps=>
    obtain ⟨vs0,_,_,_,ty0,r0⟩:=r0
    simp only [qiz] at h2
    rcases z9 h2 with ⟨_,h2⟩ | ⟨hty,h2⟩
    .cases h2
    obtain ⟨dd,h1,h2⟩:=zI.1 h2
    obtain ⟨_,hM,vs2,e,ex,hgt,ty2,r2⟩:=R2.h.cells id _ (qe0 h1)
    exact ⟨hM,fun w'' hw=>⟨vs2,e,ex,hgt,zm5 hty ty2,(qh3 ok.len ok2 g1 hle R2.h.owns (fun id hi=>by rw [g1.c id hi,hle.c id hi]) g2 g3 ps dd h2 h3 r0 r2).mono ok.len hw⟩⟩
   | si s n=>
    simp only [qiz] at h2
    obtain ⟨x,h1,rfl⟩:=zM.1 h2
    have he1:s=x.1:=h3 _ zC
    have he2:n=x.2:=h3 _ (zG _ zC)
    obtain ⟨_,hM,pos,hpos,hgt⟩:=R2.h.cells id _ (qkq h1)
    exact ⟨hM,fun w'' hw=>⟨pos,he2.trans hpos,by rw [he1];exact hgt⟩⟩
   | mp c lf va l=>
    simp only [qiz] at h2
    split at h2
    .rename_i m hm
     split at h2
     .rename_i hc
      obtain ⟨c',lf',va',l'⟩:=m
      simp only at hc
      subst hc
      rcases z9 h2 with ⟨_,h2⟩ | ⟨hb,h2⟩
      .cases h2
      cases h2
      have he:l=l':=h3 _ zC
      subst he
      simp only [zA,beq_iff_eq] at hb
      have e1:=qsz hb.1
      have e2:=hb.2
      subst e1
      subst e2
      have hlk:look st2.cells id=some (.mp c' lf va l):=by
       unfold q1u at hm
       split at hm
       .rename_i e
        cases hm
        exact e
       .cases hm
      obtain ⟨_,hM,es,clock,hgt,hlen,hent⟩:=R2.h.cells id _ hlk
      have pl:∀ {x:K c'} {ps:List (PV K)} {vs:List V},(∀ p ∈ ps,p ∈ X.cells c' x)->qu X sz w2 ps vs->qu X sz w' ps vs:=fun hsub r2=>
       ⟨r2.1,fun j p hp=>(r2.2 j p hp).plain ok2.plain g2 (fun _ _ _ h=>by rw [g3];exact h) (ok2.plain c' _ p (hsub p (List.mem_of_getElem? hp)))⟩
      refine ⟨hM,fun w'' hw=>⟨es,clock,hgt,hlen,fun i x e a b=>?_⟩⟩
      obtain ⟨z1,z2,z3,z4⟩:=hent i x e a b
      exact ⟨(pl (fun p hp=>List.mem_of_mem_take hp) z1).mono ok.len hw,z2,(pl (fun p hp=>List.mem_of_mem_drop hp) z3).mono ok.len hw,z4⟩
     .cases h2
    .cases h2
   | ml c l=>
    simp only [qiz] at h2
    obtain ⟨l',h1,rfl⟩:=zM.1 h2
    have he:l=l':=h3 _ zC
    subst he
    obtain ⟨_,hM,vs2,e,ex,hgt,_,r2⟩:=R2.h.cells id _ (qe1 h1)
    refine ⟨hM,fun w'' hw=>⟨vs2,e,ex,hgt,trivial,qu.mono ok.len hw ⟨r2.1,fun j p hp=>(r2.2 j p hp).plain ok2.plain g2 (fun _ _ _ h=>by rw [g3];exact h) ?_⟩⟩⟩
    obtain ⟨x,_,hx⟩:=List.mem_flatMap.1 (List.mem_of_getElem? hp)
    exact ok2.plain c x p hx
theorem q8o (ok:CfgOk X sz C) (ok2:CfgOk2 X C) {st0:StV K} {fr0:Fr} {H0:Heap} {w0:Wd} (R0:Rel X sz C base st0 fr0 H0 w0) {ds:List Nat} {slots:List RSlot} {ns:List (NV K)} (hN:qcq (qo X tbl inv meas) st0 slots=some ns) (hd:distinct (ka st0 slots)=true)
  {G:List (NV K)->StV K->Prop} (hG:qbr (qo X tbl inv meas) st0 slots (qda st0 ds slots) G):∃ st1 w1,G ns st1/\Rel X sz C base st1 fr0 H0 w1/\Le w0 w1/\st1.n=st0.n:=by
 have howns:∀ i,look (qda st0 ds slots).owns i=if i ∈ ka st0 slots then none else look st0.owns i:=fun i=>qkr
 refine qvw ok ok2 R0 R0 (.refl w0) rfl (fun _ _=>rfl) hN (fun s hs=>?_) (fun id ps hl=>?_) (fun i s hi=>?_) (fun i hi=>?_) hd hG
 .intro x hx vs hvs i p hk hp w' h1 h2 h3
  obtain ⟨vs0,hvs0,r0⟩:=qm0 R0 hx
  have:=q6e hvs hvs0
  subst this
  exact (r0.2 i p hp).mono ok.len h1
 .right
  intro w' hg
  obtain ⟨hcl0,hM,r0⟩:=R0.h.cells id ps hl
  exact ⟨hM,fun w'' hw=>r0.mono ok.len (hg.1.trans hw) (by rw [R0.h.n];exact (R0.h.cl id hcl0).1)⟩
 .rw [howns] at hi
  split at hi
  .cases hi
  .exact hi
 .rw [howns,zT hi]
abbrev qoo (X:Codecs K) (sz:Nat->Nat) (C:ZC K) (base:Heap) (w:Wd) (k:Ex->StV K->Prop) (ex:Ex) (fr':Fr) (H':Heap):Prop:=
 (∀ l,ex≠.goto l)/\∃ st' w',k ex st'/\Rel X sz C base st' fr' H' w'/\Le w w'
theorem q8t {σ:Type} {step:σ->(σ->Prop)->Prop} {n:Nat} {s:σ} (h:q5c step False n s):∃ m,n=m+1/\step s fun s'=>q5c step False m s':=by
 cases n with
 | zero=>exact absurd h id
 | succ m=>exact ⟨m,rfl,h⟩
theorem zna {E:Env} {fn:FuncId} {round:Option Nat} {c:Code} {fr:Fr} {H:Heap} {Q:Ex->Fr->Heap->Prop}
  (h:Wp E fn round c fr H (q6l (fun fr' H'=>∃ (Inv:Nat->Fr->Heap->Prop) (m:Nat),Inv m fr' H'/\∀ m fr H,Inv m fr H->Wp E fn round c fr H (q6l (fun fr' H'=>∃ m',m'<m/\Inv m' fr' H') Q)) Q)):Wp E fn round (.loop c) fr H Q:=by
 obtain ⟨⟨e,fr1,H1⟩,hk,h2⟩:=h
 cases e with
 | normal=>
  obtain ⟨Inv,m1,hi,hs⟩:=h2
  refine qto (fun m fr' H'=>(m=m1+1/\fr'=fr/\H'=H)∨(m<=m1/\Inv m fr' H')) (m:=m1+1) (.inl ⟨rfl,rfl,rfl⟩) ?_
  rintro m fr' H' (⟨rfl,rfl,rfl⟩ | ⟨hm,hi⟩)
  .exact ⟨_,hk,m1,Nat.lt_succ_self _,.inr ⟨zN _,hi⟩⟩
  .refine (hs m fr' H' hi).mono fun ex fr2 H2 hA=>?_
   cases ex with
   | normal=>
    obtain ⟨m',h1,h2⟩:=hA
    exact ⟨m',h1,.inr ⟨by omega,h2⟩⟩
   | _=>exact hA
 | _=>
  refine qto (fun m fr' H'=>fr'=fr/\H'=H) (m:=0) ⟨rfl,rfl⟩ ?_
  rintro m fr' H' ⟨rfl,rfl⟩
  exact ⟨_,hk,h2⟩
def q3k (w:Wd) (rd round:Option Nat):Prop:=
 match rd,round with
 | none,none=>True
 | some id,some l=>id<w.n/\l=w.c id
 | _,_=>False
theorem q3k.mono {w w':Wd} {rd round:Option Nat} (h:q3k w rd round) (hle:Le w w'):q3k w' rd round:=by
 cases rd<;>cases round
 .trivial
 .exact h
 .exact h
 .obtain ⟨h1,h2⟩:=h
  exact ⟨zL h1 hle.n,by rw [hle.c _ h1];exact h2⟩
theorem qsi (ok:CfgOk X sz C) (ok2:CfgOk2 X C) {rd round:Option Nat} {fn:Nat} {c:Code} {j:Nat} {slots sees:List Slot} {st:StV K} {fr:Fr} {H:Heap} {w:Wd} {k:Ex->StV K->Prop} {body:StV K->(Ex->StV K->Prop)->Prop}
  (hbody:∀ {st:StV K} {fr:Fr} {H:Heap} {w:Wd} {k:Ex->StV K->Prop},q3k w rd round->Rel X sz C base st fr H w->body st k->Wp C.E fn round c fr H (qoo X sz C base w k))
  (hrd:q3k w rd round) (R:Rel X sz C base st fr H w) (h:zax (qo X tbl inv meas) j slots sees (qe7 c) st body k) :
  ∃ (Inv:Nat->Fr->Heap->Prop) (m:Nat),Inv m fr H/\∀ m fr' H',Inv m fr' H'->Wp C.E fn round c fr' H' (q6l (fun fr' H'=>∃ m',m'<m/\Inv m' fr' H') (qoo X sz C base w k)):=by
 unfold zax at h
 obtain ⟨rs,hrs,h1⟩:=qb h
 obtain ⟨ns0,hns,h1⟩:=qb h1
 obtain ⟨seen,_,h2⟩:=qb h1
 cases hd:distinct (ka st rs) with
 | false=>rw [hd] at h2;exact absurd h2 id
 | true=>
  rw [hd] at h2
  simp only [zO] at h2
  obtain ⟨hinv0,hG⟩:=h2
  let Body:List (NV K)->StV K->Prop:=fun ns st1=>inv j (ns++seen)->body st1 fun ex st2=>match ex with
    | .normal=>qyq (qo X tbl inv meas) j seen rs (some ns) st (qda st (qe7 c) rs) st2
    | ex=>k ex st2
  refine ⟨fun m fr' H'=>∃ ns st1 w1,m=meas j (ns++seen)/\inv j (ns++seen)/\Body ns st1/\Rel X sz C base st1 fr' H' w1/\Le w w1/\fr'.n=fr.n/\∀ t,t ∉ qe7 c->fr'.tmp t=fr.tmp t,meas j (ns0++seen),?_,?_⟩
  .obtain ⟨st1,w1,g1,g2,g3,g4⟩:=q8o ok ok2 R hns hd hG
   exact ⟨ns0,st1,w1,rfl,hinv0,g1,g2,g3,rfl,fun _ _=>rfl⟩
  .rintro m fr' H' ⟨ns,st1,w1,rfl,hinv,hB,R1,hle1,hn1,hf1⟩
   refine (Go.E3.Wp.frame (hbody (hrd.mono hle1) R1 (hB hinv))).mono fun ex fr2 H2 hA=>?_
   obtain ⟨⟨hgo,st2,w2,hk,R2,hle2⟩,hfr2,hnn2⟩:=hA
   cases ex with
   | normal=>
    obtain ⟨ns',hinv',hdec,hh⟩:=qze ok ok2 R R2 (hle1.trans hle2) (hnn2.trans hn1) (fun t ht=>(hfr2 t ht).trans (hf1 t ht)) hk
    obtain ⟨st3,w3,g1,g2,g3,_⟩:=hh _ hG
    exact ⟨meas j (ns'++seen),hdec ns rfl,ns',st3,w3,rfl,hinv',g1,g2,g3,hnn2.trans hn1,fun t ht=>(hfr2 t ht).trans (hf1 t ht)⟩
   | _=>exact ⟨hgo,st2,w2,hk,R2,hle1.trans hle2⟩
theorem zje {E:Env} {fn:FuncId} {round:Option Nat} {f:Operand} {params:Array Tmp} {a b:Code} {fr:Fr} {H H1:Heap} {Q:Ex->Fr->Heap->Prop} {g:Nat} {va vc:List V} {mk:List Dfr} {d:Nat}
  (hf:opd fr H f=some (.func (.func g) va vc)) (hb:qki E g=true) (he:qqr round H=some (mk,H1,d))
  (h:qcr E (.func g) (va++[.func (.yield H1.next) [] []]++vc) (H1.new (.loop .ready none fr.tmps fr.n params.toList a b d)) fun _ H3=>∃ ex H4,qee H3 H1.next=some (ex,H4)/\Q ex {fr with defers:=mk++fr.defers} H4) :
  Wp E fn round (.rangeFunc f params a b) fr H Q:=by
 obtain ⟨v,H3,⟨k0,h1⟩,ex,H4,h2,h3⟩:=h
 refine ⟨(ex,{fr with defers:=mk++fr.defers},H4),⟨k0,fun k hk=>?_⟩,h3⟩
 simp only [zi,he,zB,hf,qdw,hb,zO,h1 k hk,h2,zH]
theorem RelH.alike {H:Heap} {w:Wd} {st st':StV K} (R:RelH X sz C base st H w) (h1:st'.cells=st.cells) (h2:st'.owns=st.owns) (h3:st'.next=st.next) (h4:st'.known=st.known):RelH X sz C base st' H w:=by
 obtain ⟨t,n,c,o,x,kn⟩:=st
 obtain ⟨t',n',c',o',x',kn'⟩:=st'
 simp only at h1 h2 h3 h4
 subst h1 h2 h3 h4
 exact ⟨R.wf,R.rob,R.g,R.nx,R.b,R.Mlt,R.n,R.one,R.keeps,R.cl,R.cinj,R.cells,R.owns,R.ownn,R.eta,R.einj,R.ce,R.known,R.globs⟩
theorem q4l (ok:CfgOk X sz C) {H:Heap} {w:Wd} {st:StV K} (R:RelH X sz C base st H w) {id:Nat} {ct:ZT K} (o:O) (hl:look st.cells id=some ct) :
  ∃ w',RelH X sz C base {st with cells:=qad st.cells id} (H.put (w.c id) o) w'/\Le w w':=by
 obtain ⟨hcl,hM,hat⟩:=R.cells id _ hl
 obtain ⟨hid,hnext,hbase⟩:=R.cl id hcl
 let H':=H.put (w.c id) o
 have hget:∀ nm,nm≠w.c id->H'.get nm=H.get nm:=fun nm hn=>qa8 hn
 have hle:Le w {w with g:=H'.get}:=by
  refine ⟨⟨zN _,fun nm cs e gen floor frz ex h hM'=>⟨hM',[],gen,frz,ex,?_⟩,fun _ _=>rfl,fun _ _=>rfl,fun _ _ h=>h,fun _ _ _ _ h h'=>(by rw [h] at h';cases h';exact zN _),fun i s hi ho _=>⟨rfl,fun nm hn _=>?_⟩,rfl,fun _ _=>.rfl,zN _,rfl,fun _ _ h=>h,fun _ _=>rfl⟩,fun m hm=>?_,rfl⟩
  .rw [zJ]
   show H'.get nm=_
   rw [hget nm (by intro he;subst he;exact hM' hM),<-R.g]
   exact h
  .show H'.get nm=w.g nm
   rw [R.owns] at ho
   obtain ⟨_,_,hnM⟩:=R.eta i s nm ho hn
   rw [hget nm (by intro he;subst he;exact hnM hM),R.g]
  .show H'.get m=_
   rw [R.g] at hm
   rw [hget m (by intro he;subst he;exact hat.some.1 hm)]
   exact hm
 refine ⟨{w with g:=H'.get},?_,hle⟩
 refine ⟨fun n hn=>?_,R.rob,rfl,R.nx,R.b,R.Mlt,R.n,R.one,R.keeps.put hbase _,R.cl,R.cinj,fun id' ps' h'=>?_,R.owns,R.ownn,R.eta,R.einj,R.ce,R.known,fun gn ps' h'=>?_⟩
 .have hn':H.next<=n:=hn
  rw [hget n (by omega)]
  exact R.wf n hn'
 .simp only [qes] at h'
  by_cases hi:id'=id
  .rw [zT hi] at h';cases h'
  .rw [zF hi] at h'
   obtain ⟨q1,q2,q5⟩:=R.cells id' ps' h'
   refine ⟨q1,q2,?_⟩
   show qaw X sz _ id' _ (H'.get (w.c id'))
   rw [hget _ (by intro he;exact hi (R.cinj id' id q1 hcl he))]
   exact q5.mono ok.len hle (by rw [R.n];exact (R.cl id' q1).1)
 .obtain ⟨q0,vs',e',fl,fz,ex',q1,q2,q3⟩:=R.globs gn ps' h'
  exact ⟨q0,vs',e',fl,fz,ex',q1,q2,q3.mono ok.len hle⟩
theorem q2a (ok:CfgOk X sz C) (iok:qlb X sz C inl) {rd round:Option Nat} {fnE:Nat} {st:StV K} {fr:Fr} {H:Heap} {w:Wd} (hrd:q3k w rd round) (R:Rel X sz C base st fr H w) (hin:inRound rd st=true)
  {f:Operand} {vf:V} {v:PV K} (ev:opd fr H f=some vf) (rv:Rep X sz w v vf) {r:LRec Int Bool (List UInt8) Prop (fun c=>List (K c))} {params:Array Tmp} {a b:Code}
  (e1:r.tmps=st.tmps) (e2:r.n=st.n) (e3:r.params=params.toList) (e4:r.assign=a) (e5:r.body=b) (e6:r.mode=.ready) {k:Ex->StV K->Prop} (h:q86 (qo X tbl inv meas) C inl r v st k) :
  Wp C.E fnE round (.rangeFunc f params a b) fr H (qoo X sz C base w k):=by
 unfold q86 at h
 split at h
 .rename_i g first cap
  cases rv with
  | @func f' a' c' va vc ha hc h1 h2=>
  obtain ⟨hb,h⟩:=cond_prop h
  obtain ⟨mk,H1,d,w1,he,R1,hle1,hds⟩:∃ mk H1 d w1,qqr round H=some (mk,H1,d)/\RelH X sz C base {st with next:=st.next+1} H1 w1/\Le w w1/\q24 base.next w1 (mk++fr.defers):=by
   cases round with
   | none=>
    obtain ⟨w1,R1,hle,hg,hg0⟩:=q1z ok R.h
    have hds:=R.ds.mono hle
    refine ⟨[.mark H.next],H.new .dfr,H.next,w1,rfl,R1,hle,fun x hx=>?_,?_,hds.2.2⟩
    .rcases zD.1 hx with rfl | hx
     .refine ⟨H.next,rfl,R.h.keeps.next,?_,hg⟩
      rw [hle.fl,<-R.h.nx]
      exact R.ds.2.2
     .exact hds.1 x hx
    .show (Dfr.mark H.next::fr.defers).Nodup
     rw [List.nodup_cons]
     refine ⟨fun hm=>?_,R.ds.2.1⟩
     obtain ⟨m,h3,_,_,h4⟩:=R.ds.1 _ hm
     cases h3
     rw [hg0] at h4
     cases h4
   | some l=>
    cases rd with
    | none=>exact absurd hrd id
    | some id=>
     obtain ⟨hid,rfl⟩:=hrd
     simp only [inRound] at hin
     split at hin
     .rename_i r' hl
      obtain ⟨_,_,g',_,p2,_⟩:=R.h.cells id _ hl
      obtain ⟨hle,R1⟩:=R.h.ext ok (m:=st.next+1) (nu':=w.nu) (Nat.le_succ _) (fun _ _=>rfl)
      refine ⟨[],H,g'.ld,_,?_,R1,hle,R.ds.mono hle⟩
      simp only [qqr,p2]
      unfold qfi
      split
      .rename_i heq;split at heq<;>cases heq<;>rfl
      .rename_i hno
       exfalso
       split at hno<;>exact hno _ _ _ _ _ _ _ _ rfl
     .cases hin
  let gl:LG:=⟨fr.tmps,fr.n,params.toList,a,b,d⟩
  obtain ⟨w2,R2,hle2,hc2,hlt2⟩:=qfl ok R1 (ct:=.lp r) (row:=.loop .ready none fr.tmps fr.n params.toList a b d) (lp':=fun i=>if i=st.next+1 then some gl else w1.lp i)
   (fun i hi=>zF (by have:i<st.next+1:=hi;omega)) (fun w' hw hlp=>⟨gl,by rw [hlp];exact zT rfl,by rw [e6];rfl,by rw [e2];exact R.n.symm,e3,e4,e5,fun i p hp=>by
     rw [e1] at hp
     obtain ⟨x,p1,p2⟩:=R.f i p hp
     exact ⟨x,p1,(p2.mono ok.len hle1).mono ok.len hw⟩⟩)
  have hle12:=hle1.trans hle2
  have ry:qu X sz w2 [.yield (st.next+1)] [.func (.yield H1.next) [] []]:=by
   have hy:=Rep.yield (X:=X) (sz:=sz) (w:=w2) (id:=st.next+1) hlt2
   rw [show w2.c (st.next+1)=H1.next from hc2] at hy
   exact .cons hy .nil
  have hra:qu X sz w2 (first++[.yield (st.next+1)]++cap) (va++[.func (.yield H1.next) [] []]++vc):=
   qu.append (qu.append (qu.mono ok.len hle12 (ps:=first) ⟨ha,h1⟩) ry) (qu.mono ok.len hle12 (ps:=cap) ⟨hc,h2⟩)
  refine zje ev hb he ((iok (.func g) _ _ _ h base _ w2 _ R2 hra).mono fun _ H3 hA=>?_)
  obtain ⟨_,st3,w3,hk,t3,n3,R3,hle3,_⟩:=hA
  unfold znm at hk
  split at hk
  .rename_i r3 hl3
   obtain ⟨hcl3,hM3,g3,p1,p2,_⟩:=R3.cells _ _ hl3
   have hc3:w3.c (st.next+1)=H1.next:=(hle3.c _ hlt2).trans hc2
   have hro:H3.ro<=H1.next:=by rw [R3.keeps.ro,<-hc3];exact zR R3.rob.1 (R3.cl _ hcl3).2.2
   rw [hc3] at p2
   have fin:∀ (ex:Ex) (o:O),(∀ l,ex≠.goto l)->qee H3 H1.next=some (ex,H3.put H1.next o)->k ex {st3 with cells:=qad st3.cells (st.next+1),tmps:=st.tmps,n:=st.n}->
     ∃ ex H4,qee H3 H1.next=some (ex,H4)/\qoo X sz C base w k ex {fr with defers:=mk++fr.defers} H4:=by
    intro ex o hg he hk
    obtain ⟨w4,R4,hle4⟩:=q4l ok R3 o hl3
    rw [hc3] at R4
    have hle:Le w w4:=hle12.trans (hle3.trans hle4)
    exact ⟨ex,_,he,hg,_,w4,hk,⟨R4.alike rfl rfl rfl rfl,fun i p hp=>by
     obtain ⟨x,p1,p2⟩:=R.f i p hp
     exact ⟨x,p1,p2.mono ok.len hle⟩,R.n,hds.mono (hle2.trans (hle3.trans hle4))⟩,hle⟩
   split at hk
   .rename_i hm
    rw [hm] at p2
    exact fin .normal _ (by simp) (by simp only [qee,p2,qfi,qbs hro,zB,qd1,zH];rfl) hk
   .rename_i hm
    rw [hm] at p2
    exact fin .ret _ (by simp) (by simp only [qee,p2,qfi,qbs hro,zB,qd1,zH];rfl) hk
   .rename_i i hm
    rw [hm] at p2
    exact fin (.exit i) _ (by simp) (by simp only [qee,p2,qfi,qbs hro,zB,qd1,zH];rfl) hk
   .exact absurd hk id
  .exact absurd hk id
 .exact absurd h id
theorem kv (ok:CfgOk X sz C) (ok2:CfgOk2 X C) (tok:qgv X sz C tbl) (iok:qlb X sz C inl) {rd round:Option Nat} {fn fnE:Nat}:∀ {c:Code} {p:Nat} {st:StV K} {fr:Fr} {H:Heap} {w:Wd} {k:Ex->StV K->Prop},
  q3k w rd round->Rel X sz C base st fr H w->qa7 (qo X tbl inv meas) C inl rd fn p c st k->Wp C.E fnE round c fr H (qoo X sz C base w k)
 | .skip,p,st,fr,H,w,k,hrd,R,h=>znb ⟨by simp,st,w,h,R,.refl w⟩
 | .label _,p,st,fr,H,w,k,hrd,R,h=>zjd ⟨by simp,st,w,h,R,.refl w⟩
 | .exit _,p,st,fr,H,w,k,hrd,R,h=>zm9 ⟨by simp,st,w,h,R,.refl w⟩
 | .ret,p,st,fr,H,w,k,hrd,R,h=>zqi ⟨by simp,st,w,h,R,.refl w⟩
 | .goto _,p,st,fr,H,w,k,hrd,R,h=>absurd h id
 | .refuse _,p,st,fr,H,w,k,hrd,R,h=>absurd h id
 | .rangeFunc f params a b,p,st,fr,H,w,k,hrd,R,h=>by
  simp only [qa7] at h
  obtain ⟨hin,h1⟩:=cond_prop h
  obtain ⟨v,hv,h2⟩:=qb h1
  obtain ⟨vf,ev,rv⟩:=qp R hv
  exact q2a ok iok hrd R hin ev rv rfl rfl rfl rfl rfl rfl h2
 | .cond c a b,p,st,fr,H,w,k,hrd,R,h=>by
  simp only [qa7] at h
  split at h
  .rename_i pc hc
   obtain ⟨v,ev,rv⟩:=qp R hc
   obtain ⟨t,rfl⟩:=q90 rv h
   obtain ⟨st1,h1,hn,_,R1⟩:=quq R.h rv h
   have R1':=R.zh3 ok hn R1 (.refl w)
   refine zm8 ev ?_
   cases t with
   | true=>exact kv ok ok2 tok iok hrd R1' h1
   | false=>exact kv ok ok2 tok iok hrd R1' h1
  .exact absurd h id
 | .block id c,p,st,fr,H,w,k,hrd,R,h=>by
  simp only [qa7] at h
  refine zjb ((kv ok ok2 tok iok hrd R h).mono fun ex fr' H' hA=>?_)
  obtain ⟨hg,st',w',hk,R',hle⟩:=hA
  cases ex with
  | exit id'=>
   simp only at hk
   simp only [qns]
   cases hb:Nat.beq id' id with
   | true=>
    rw [hb] at hk
    simp only [zO] at hk
    have:=zE hb
    subst this
    exact q7z ⟨by simp,st',w',hk,R',hle⟩
   | false=>
    rw [hb] at hk
    simp only [zQ] at hk
    have hne:¬ id'=id:=by
     intro he
     subst he
     simp at hb
    exact q31 hne ⟨by simp,st',w',hk,R',hle⟩
  | _=>exact ⟨hg,st',w',hk,R',hle⟩
 | .scope c,p,st,fr,H,w,k,hrd,R,h=>by
  simp only [qa7] at h
  refine zjf ((kv ok ok2 tok iok hrd R h).mono fun ex fr' H' hA=>⟨hA.1,hA⟩)
 | .region id ops draw,p,st,fr,H,w,k,hrd,R,h=>by
  simp only [qa7] at h
  cases draw with
  | true=>
   simp only [zO] at h
   refine zjc ?_
   have m:Mid X sz C base H.next st.next 0 w [] [] st fr H w:=⟨R,.nil,zN _,zN _,fun id _ hc=>(R.h.cl id hc).2.1,fun d hd=>(by cases hd),fun d hd=>(by cases hd),.refl w,_,_,R.h,rfl⟩
   obtain ⟨x,hx,e,st',w',a1,a2,a3⟩:=qk6 (b:=Region.before ops) (i:=0) ok ok2 tok iok m R.cm h
   exact ⟨x,hx,by simp,st',w',a1,a2,a3⟩
  | false=>
   simp only [zQ] at h
   refine zfe ((qmj ok ok2 tok iok R h).mono fun ex fr' H' hA=>?_)
   obtain ⟨rfl,st',w',a1,a2,a3⟩:=hA
   exact ⟨by simp,st',w',a1,a2,a3⟩
 | .seq a b,p,st,fr,H,w,k,hrd,R,h=>by
  simp only [qa7] at h
  split at h
  .rename_i j slots sees hann
   obtain ⟨rs,hrs,h1⟩:=qb h
   obtain ⟨seen,_,h1⟩:=qb h1
   obtain ⟨ha,hg⟩:=h1
   refine zjg ((Go.E3.Wp.frame (kv ok ok2 tok iok hrd R ha)).mono fun ex fr' H' hA=>?_)
   obtain ⟨⟨hgo,st',w',hk,R',hle⟩,hfr,hnn⟩:=hA
   cases ex with
   | normal=>
    obtain ⟨ns,hinv,_,hh⟩:=qze ok ok2 R R' hle hnn hfr hk
    obtain ⟨st1,w1,g1,g2,g3,_⟩:=hh _ hg
    refine (kv ok ok2 tok iok (hrd.mono g3) g2 (g1 hinv)).mono fun ex fr2 H2 hB=>?_
    obtain ⟨q1,st3,w3,q2,q3,q4⟩:=hB
    exact ⟨q1,st3,w3,q2,q3,g3.trans q4⟩
   | _=>exact ⟨hgo,st',w',hk,R',hle⟩
  .refine zjg ((kv ok ok2 tok iok hrd R h).mono fun ex fr' H' hA=>?_)
   obtain ⟨hg,st',w',hk,R',hle⟩:=hA
   cases ex with
   | normal=>
    refine (kv ok ok2 tok iok (hrd.mono hle) R' hk).mono fun ex fr2 H2 hB=>?_
    obtain ⟨q1,st3,w3,q2,q3,q4⟩:=hB
    exact ⟨q1,st3,w3,q2,q3,hle.trans q4⟩
   | _=>exact ⟨hg,st',w',hk,R',hle⟩
 | .loop c,p,st,fr,H,w,k,hrd,R,h=>by
  simp only [qa7] at h
  split at h
  .rename_i j slots sees hann
   obtain ⟨Inv,m,h0,hs⟩:=qsi ok ok2 (fun hrd R h=>kv ok ok2 tok iok hrd R h) hrd R h
   exact qto Inv h0 hs
  .rename_i j slots sees hann
   refine zna ((kv ok ok2 tok iok hrd R h).mono fun ex fr' H' hA=>?_)
   obtain ⟨hg,st1,w1,hk,R1,hle1⟩:=hA
   cases ex with
   | normal=>
    obtain ⟨Inv,m,h0,hs⟩:=qsi ok ok2 (fun hrd R h=>kv ok ok2 tok iok hrd R h) (hrd.mono hle1) R1 hk
    refine ⟨Inv,m,h0,fun m fr2 H2 hi=>(hs m fr2 H2 hi).mono fun ex fr3 H3 hB=>?_⟩
    cases ex with
    | normal=>exact hB
    | _=>
     obtain ⟨q1,st3,w3,q2,q3,q4⟩:=hB
     exact ⟨q1,st3,w3,q2,q3,hle1.trans q4⟩
   | _=>exact ⟨hg,st1,w1,hk,R1,hle1⟩
  .rename_i n hann
   refine qto (fun m fr' H'=>∃ st1 w1,q5c (fun s g=>qa7 (qo X tbl inv meas) C inl rd fn (2 * p) c s fun ex st1=>match ex with
    | .normal=>g st1
    | ex=>k ex st1) False m st1/\Rel X sz C base st1 fr' H' w1/\Le w w1) (m:=n) ⟨st,w,h,R,.refl w⟩ ?_
   rintro m fr' H' ⟨st1,w1,hit,R1,hle1⟩
   obtain ⟨m',rfl,hit'⟩:=q8t hit
   refine (kv ok ok2 tok iok (hrd.mono hle1) R1 hit').mono fun ex fr2 H2 hA=>?_
   obtain ⟨hg,st2,w2,hk,R2,hle2⟩:=hA
   cases ex with
   | normal=>exact ⟨m',Nat.lt_succ_self _,st2,w2,hk,R2,hle1.trans hle2⟩
   | _=>exact ⟨hg,st2,w2,hk,R2,hle1.trans hle2⟩
  .exact absurd h id
end
end Go.E3
/- E3: FUNCTIONS against E2's: what the conditions of a function show. -/
namespace Go.E3
open Go Go.E2
variable {K:Nat->Type}
def jk:List (PV K)->List (PV K)->List (Nat×Nat)
 | .list _ _ (some (i,_))::ps,.list _ _ (some (j,_))::rs=>(j,i)::jk ps rs
 | _::ps,_::rs=>jk ps rs
 | _,_=>[]
def RT:PV K->Prop
 | .sb id _ b pt pf=>id=0/\(pt↔b=true)/\(pf↔b=false)
 | .int _ l _=>l=none
 | .list _ _ (some (_,s))=>s=0
 | _=>True
section
variable {X:Codecs K} {sz:Nat->Nat} {C:ZC K} {base H:Heap} {st:StV K} {w:Wd}
variable {tbl:Tbl K} {inv:Nat->List (NV K)->Prop} {meas:Nat->List (NV K)->Nat} {inl:ZI K}
theorem qix {fr:Fr} (R:RelH X sz C base st H w) (F:q3l X sz w st.tmps fr):∀ {rs:List ResultVar} {ps:List (PV K)},qg5 (qo X tbl inv meas) C st rs=some ps->∃ vs,jb C.E fr H rs=some vs/\qu X sz w ps vs
 | [],ps,h=>by
  simp only [qg5,zS] at h
  subst h
  exact ⟨[],rfl,.nil⟩
 | .tmp t::rs,ps,h=>by
  simp only [qg5] at h
  obtain ⟨p,h1,h2⟩:=zI.1 h
  obtain ⟨qs,h3,rfl⟩:=zM.1 h2
  obtain ⟨v,e1,r1⟩:=F t p h1
  obtain ⟨vs,e2,r2⟩:=qix R F h3
  exact ⟨v::vs,by simp only [jb,e1,zB,e2,zH],.cons r1 r2⟩
 | .cell a t::rs,ps,h=>by
  simp only [qg5] at h
  obtain ⟨ti,h0,h1⟩:=zI.1 h
  obtain ⟨pa,h2,h3⟩:=zI.1 h1
  obtain ⟨p,h4,h5⟩:=zI.1 h3
  obtain ⟨qs,h6,rfl⟩:=zM.1 h5
  obtain ⟨va,e1,r1⟩:=F a pa h2
  obtain ⟨nm,gn,off,lim,rfl,_,hl,_⟩:=qio R r1 h4
  obtain ⟨u,hu,ru⟩:=hl H rfl
  obtain ⟨vs,e2,r2⟩:=qix R F h6
  exact ⟨u::vs,by simp only [jb,h0,e1,hu,zB,e2,zH],.cons ru r2⟩
theorem zem {ps:List (PV K)} {vs:List V} (r:qu X sz w ps vs):Rep X sz w (q8v ps) (oneOf vs):=by
 match ps,r with
 | [],r=>rw [r.km];exact .undef
 | [p],r=>
  obtain ⟨v,vs',rfl,r1,r2⟩:=r.kc
  have:=r2.km;subst this
  exact r1
 | p::q::ps,r=>
  obtain ⟨v,vs',rfl,r1,r2⟩:=r.kc
  obtain ⟨u,vs'',rfl,r3,r4⟩:=r2.kc
  exact .tuple' (.cons r1 (.cons r3 r4))
theorem qi1 (ok:CfgOk X sz C) {base H:Heap}:∀ {ps:List (PV K)} {vs:List V} {st:StV K} {w:Wd} {k:List (PV K)->StV K->Prop},RelH X sz C base st H w->qu X sz w ps vs->q6k (qo X tbl inv meas) ps st k->
  ∃ qs st' w',k qs st'/\RelH X sz C base st' H w'/\Le w w'/\qu X sz w' qs vs
 | [],vs,st,w,k,R,r,h=>⟨[],st,w,h,R,.refl w,r⟩
 | p::ps,vs,st,w,k,R,r,h=>by
  obtain ⟨v,vs',rfl,r1,r2⟩:=r.kc
  by_cases hmm:∃ id c fx n,p=.mlist id c fx n
  .obtain ⟨id,c,fx,n,rfl⟩:=hmm
   simp only [q6k] at h
   obtain ⟨l,hl,hn,h⟩:=qb h
   have hn:n=(l.length:Int):=hn
   have hl:=qe1 hl
   cases r1 with
   | mlist hi h0 hz=>
    obtain ⟨w1,R1,hle1,hn1,hg1,hrep⟩:=qkh ok R hl hz
    have hnn:n.toNat=l.length:=by omega
    cases fx with
    | false=>
     obtain ⟨qs,st',w',a1,a2,a3,a4⟩:=qi1 ok R1 (r2.mono ok.len hle1) h
     refine ⟨_,st',w',a1,a2,hle1.trans a3,.cons ?_ a4⟩
     rw [hnn]
     exact (hrep none none (fun k hk=>by cases hk) trivial).mono ok.len a3
    | true=>
     have hB:Bump {st with cells:=qad st.cells id} {st with cells:=qad st.cells id,owns:=(st.next,0)::st.owns,next:=st.next+1} st.next 0:=by
      have hnone:look st.owns st.next=none:=by
       cases hl:look st.owns st.next with
       | none=>rfl
       | some g=>have:=R.ownn _ _ hl;omega
      exact ⟨rfl,rfl,rfl,rfl,fun j=>qag,Nat.le_succ _,Nat.lt_succ_self _,fun g hg=>(by have hg:look st.owns st.next=some g:=hg;rw [hnone] at hg;cases hg),fun _=>zN _⟩
     obtain ⟨w2,R2,hle2,ow,et,hn2,_⟩:=qog (named:=false) ok R1 hB (by simp)
     have rl:=(hrep none (some l.length) (fun k hk=>by cases hk;exact zN _) trivial).mono ok.len hle2
     have ho:qj1 w2 sz c (some (st.next,0)) (.slice (w.c id) 0 0 l.length (sz c) (some l.length)):=
      ⟨by rw [hn2];exact Nat.lt_succ_self _,fun cur hc'=>(by rw [ow] at hc';cases hc';exact zN _),fun _=>.inl rfl,fun h=>by cases h⟩
     have rl2:Rep X sz w2 (.list c l (some (st.next,0))) (.slice (w.c id) 0 0 l.length (sz c) (some l.length)):=by
      cases rl with
      | list hg hf hM hlen hb hz hcap hc _=>exact .list hg hf hM hlen hb hz hcap hc ho
     obtain ⟨qs,st',w',a1,a2,a3,a4⟩:=qi1 ok R2 ((r2.mono ok.len hle1).mono ok.len hle2) h
     refine ⟨_,st',w',a1,a2,(hle1.trans hle2).trans a3,.cons ?_ a4⟩
     rw [hnn]
     exact rl2.mono ok.len a3
  .have hml':∀ id c fx n,p=.mlist id c fx n->False:=fun id c fx n he=>hmm ⟨id,c,fx,n,he⟩
   simp only [q6k] at h
   obtain ⟨qs,st',w',a1,a2,a3,a4⟩:=qi1 ok R r2 h
   exact ⟨_,st',w',a1,a2,a3,.cons (r1.mono ok.len a3) a4⟩
theorem qxz (ok:CfgOk X sz C) {base H:Heap} {keep:Bool} {ps:List (PV K)} {vs:List V} {st:StV K} {w:Wd} {k:List (PV K)->StV K->Prop} (R:RelH X sz C base st H w) (r:qu X sz w ps vs) (h:q2e (qo X tbl inv meas) keep ps st k) :
  ∃ qs st' w',k qs st'/\RelH X sz C base st' H w'/\Le w w'/\qu X sz w' qs vs:=by
 cases keep with
 | true=>exact ⟨ps,st,w,h,R,.refl w,r⟩
 | false=>exact qi1 ok R r h
theorem zgr {X:Codecs K}:(X.u8 ▸ ([]:List (K 0)):List UInt8)=[]:=by
 rw [qmm]
 rfl
theorem q51 (ok:CfgOk X sz C) (pok:zgd C) {f:Nat} (hf:C.prim f=true) {args:List (PV K)} {st:StV K} {k:PV K->StV K->Prop} (h:ziy (qo X tbl inv meas) args st k) {base H:Heap} {w:Wd} {vs:List V}
  (R:RelH X sz C base st H w) (ra:qu X sz w args vs):qcr C.E (.func f) vs H fun v H'=>∃ p st' w',k p st'/\st'.tmps=st.tmps/\st'.n=st.n/\RelH X sz C base st' H' w'/\Le w w'/\Rep X sz w' p v:=by
 unfold ziy at h
 split at h
 .rename_i id off lim
  obtain ⟨a,us,rfl,r1,r2⟩:=ra.kc
  have:=r2.km;subst this
  obtain ⟨cs,hcs,h1⟩:=qb h
  clear h
  obtain ⟨hcl,hMc,vs,e,ex,hg,_,hr⟩:=R.cells id _ (qe0 hcs)
  have hr:qu X sz w cs vs:=hr
  cases r1 with
  | cell hid=>
   obtain ⟨hb,h2⟩:=cond_prop h1
   clear h1
   simp only [zA,Nat.ble_eq] at hb
   obtain ⟨hb1,hb2⟩:=hb
   have hb2':lim<=vs.length:=by rw [<-hr.1];exact hb2
   obtain ⟨pk1,pk2⟩:=pok f hf H (w.c id) off lim vs e ex R.wf hg hb1 hb2'
   have hget:∀ q,cs[off+1]? = some q->∃ u,vs[off+1]? = some u/\Rep X sz w q u:=fun q hq=>hr.get hq
   split at h2
   .rename_i hq
    obtain ⟨u,hu,ru⟩:=hget _ hq
    cases ru
    refine (pk1 hu).mono fun v H' hA=>?_
    obtain ⟨rfl,rfl⟩:=hA
    exact ⟨_,st,w,h2,rfl,rfl,R,.refl w,.str⟩
   .rename_i c l i s hq
    split at h2
    .rename_i hc
     subst hc
     obtain ⟨ho,h3,h4⟩:=cond_prop h2
     clear h2
     simp only [zA] at ho
     have hodd:=zE ho.2
     have hlook:=qv1 R.owns ho.1
     obtain ⟨u,hu,ru⟩:=hget _ hq
     have hlk:look st.owns i=some s:=by rw [<-R.owns];exact hlook
     have hs1:sz 0=1:=by rw [<-ok.len 0 (X.dflt 0),ok.u8];rfl
     obtain ⟨ru0,ro⟩:=ru.zi9
     have hnb:=ro.2.2.2 hodd
     have hov:=ro.2.2.1 hlook
     rcases je ru with ⟨rfl,rfl⟩ | ⟨nm,gn,o2,z,cap,cells,el,gen,floor,frz,eb,rfl,hgn,hf2,hM2,hlen,hzz,hcap,hcell,_⟩
     .refine (pk1 hu).mono fun v H' hA=>?_
      obtain ⟨rfl,rfl⟩:=hA
      have e0:(qo X tbl inv meas).bstr ([]:List (K 0))=[]:=zgr (X:=X)
      have h4':k (.str ((qo X tbl inv meas).bstr ([]:List (K 0)))) {st with owns:=qad st.owns i}:=h4
      rw [e0] at h4'
      obtain ⟨w',R',hle⟩:=q8a ok R i
      exact ⟨_,_,w',h4',rfl,rfl,R',hle,.str⟩
     .obtain ⟨rfl,rfl,hpos⟩:=hnb
      simp only [qs7] at hov
      obtain rfl:z=sz 0:=by
       rcases hzz.2 with h | ⟨_,_,h⟩
       .exact h
       .cases h
      rcases hov with hov | ⟨_,het,cells',el',floor',frz',eb',hg',htop,hfrz,hce⟩
      .cases hov
      .rw [hgn] at hg'
       cases hg'
       rw [R.g] at hgn
       rw [hs1] at htop hlen hu
       obtain ⟨hbase,hnext,hnM⟩:=R.eta i s nm hlk het
       obtain ⟨ecs,ee1,ee2⟩:=qdi ok.len R.g ru0 (by rw [hs1];exact Nat.one_pos)
       rw [<-qsb,qmw hzz] at ee1
       rw [hs1] at ee1
       have hecs:ecs=cells:=by
        have b1:Nat.ble floor gn=true:=by rw [Nat.ble_eq];exact hf2
        have b2:Nat.ble (0+l.length * 1) (0+l.length * 1)=true:=by rw [Nat.ble_eq];exact zN _
        have b3:Nat.ble (0+l.length * 1) cells.length=true:=by rw [Nat.ble_eq];exact hlen
        simp only [kb,V.qd2,qbj,Nat.beq_refl,zO,qah,hgn,b1,b2,b3,Bool.and_self,zM,zP,true_and] at ee1
        obtain ⟨_,ee1,rfl⟩:=ee1
        obtain ⟨rfl,_⟩:=qku ee1
        rw [List.drop_zero,List.take_of_length_le]
        omega
       subst hecs
       have hbytes:=qll ok ee2
       have hle':l.length<=140737488355328:=by
        have:(l.length:Int)<=140737488355328:=h3
        omega
       refine (pk2 nm gn l.length ecs el floor frz eb _ hu hgn (by omega) hf2 hpos hle' (by rw [<-R.ce];exact hce) hbytes ee2.qrd (by rw [R.keeps.ro];exact zR R.rob.1 hbase) (fun he=>hnM (by rw [he];exact hMc))).mono fun v H' hA=>?_
       obtain ⟨rfl,rfl⟩:=hA
       obtain ⟨w',R',hle⟩:=q89 ok R hlk het (max frz l.length) hgn
       exact ⟨_,_,w',h4,rfl,rfl,R',hle,.str⟩
    .exact h2.elim
   .exact h2.elim
 .exact h.elim
theorem LeB.qk8 (w:Wd) (x:Nat):LeB w {w with fl:=x}:=
 have h:=LeB.refl w
 ⟨h.n,h.mem,h.c,h.nu,h.o1,h.o2,h.o3,h.ce,h.cl,h.nx,h.b,h.Mu,h.lp⟩
theorem RelH.qk8 (ok:CfgOk X sz C) (R:RelH X sz C base st H w) (x:Nat):RelH X sz C base st H {w with fl:=x}:=
 ⟨R.wf,R.rob,R.g,R.nx,R.b,R.Mlt,R.n,R.one,R.keeps,R.cl,R.cinj,fun id ct h=>by
  obtain ⟨a,b,c⟩:=R.cells id ct h
  exact ⟨a,b,c.qdf ok.len (LeB.qk8 w x) (by rw [R.n];exact (R.cl id a).1)⟩,R.owns,R.ownn,R.eta,R.einj,R.ce,R.known,fun gn ps h=>by
  obtain ⟨q0,vs',e',fl,fz,ex',q1,q2,q3⟩:=R.globs gn ps h
  exact ⟨q0,vs',e',fl,fz,ex',q1,q2,q3.qdf ok.len (LeB.qk8 w x)⟩⟩
theorem qsr (ok:CfgOk X sz C) {F:Nat}:∀ {ds:List Dfr} {H:Heap} {w:Wd},RelH X sz C base st H w->(∀ x ∈ ds,∃ m,x=.mark m/\base.next<=m/\F<=m/\w.g m=some .dfr)->ds.Nodup->
  ∃ H'' w2,qc3 ds H=some H''/\RelH X sz C base st H'' w2/\LeB w w2/\w2.fl=w.fl/\∀ m,m<F->w2.g m=w.g m
 | [],H,w,R,_,_=>⟨H,w,rfl,R,.refl w,rfl,fun _ _=>rfl⟩
 | x::ds,H,w,R,hd,hn=>by
  obtain ⟨m,rfl,hb,hF,hg⟩:=hd x zC
  rw [List.nodup_cons] at hn
  let H1:=H.put m .gone
  let w1:Wd:={w with g:=H1.get}
  have hgH:H.get m=some .dfr:=by rw [<-R.g];exact hg
  have hget:∀ nm,nm≠m->H1.get nm=H.get nm:=fun nm hn=>qa8 hn
  have hlt:m<H.next:=by
   by_cases h:m<H.next
   .exact h
   .rw [R.wf m (by omega)] at hgH;cases hgH
  have hle:LeB w w1:=by
   refine ⟨zN _,fun nm cs e gen floor frz ex h hM'=>⟨hM',[],gen,frz,ex,?_⟩,fun _ _=>rfl,fun _ _=>rfl,fun _ _ h=>h,fun _ _ _ _ h h'=>(by rw [h] at h';cases h';exact zN _),fun i s hi ho _=>⟨rfl,fun nm hn hne=>?_⟩,rfl,fun _ _=>.rfl,zN _,rfl,fun _ _ h=>h,fun _ _=>rfl⟩
   .rw [zJ]
    show H1.get nm=_
    rw [hget nm (by intro he;subst he;rw [hg] at h;cases h),<-R.g]
    exact h
   .show H1.get nm=w.g nm
    rw [hget nm (by intro he;subst he;exact hne hg),R.g]
  have R1:RelH X sz C base st H1 w1:=by
   refine ⟨fun n hn=>?_,R.rob,rfl,R.nx,R.b,R.Mlt,R.n,R.one,R.keeps.put hb _,R.cl,R.cinj,fun id' ps' h'=>?_,R.owns,R.ownn,R.eta,R.einj,R.ce,R.known,fun gn ps' h'=>?_⟩
   .have hn':H.next<=n:=hn
    rw [hget n (by omega)]
    exact R.wf n hn'
   .obtain ⟨q1,q2,q5⟩:=R.cells id' ps' h'
    refine ⟨q1,q2,?_⟩
    show qaw X sz w1 id' _ (H1.get (w.c id'))
    rw [hget _ (by intro he;rw [he] at q5;exact q5.some.1 hgH)]
    exact q5.qdf ok.len hle (by rw [R.n];exact (R.cl id' q1).1)
   .obtain ⟨q0,vs',e',fl,fz,ex',q1,q2,q3⟩:=R.globs gn ps' h'
    exact ⟨q0,vs',e',fl,fz,ex',q1,q2,q3.qdf ok.len hle⟩
  obtain ⟨H'',w2,a1,a2,a3,a4,a5⟩:=qsr ok R1 (fun x hx=>by
   obtain ⟨m',h1,h2,h3,h4⟩:=hd x (zG _ hx)
   refine ⟨m',h1,h2,h3,?_⟩
   show H1.get m'=_
   rw [hget m' (by intro he;subst he;subst h1;exact hn.1 hx),<-R.g]
   exact h4) hn.2
  refine ⟨H'',w2,?_,a2,hle.trans a3,a4,fun m' hm'=>?_⟩
  .simp only [qc3,hgH,qbs (show H.ro<=m by rw [R.keeps.ro];exact zR R.rob.1 hb),zB]
   exact a1
  .rw [a5 m' hm']
   show H1.get m'=w.g m'
   rw [hget m' (by omega),R.g]
theorem Le.leave {w w1 w2 w3:Wd} (hwf:∀ n,w.nx<=n->w.g n=none) (h1:Le {w with fl:=w.nx} w1) (h2:LeB w1 w2) (hold:∀ m,m<w.nx->w2.g m=w1.g m) (h3:Le w2 w3):Le w {w3 with fl:=w.fl}:=by
 have h:=h1.toLeB.trans (h2.trans h3.toLeB)
 refine ⟨⟨h.n,h.mem,h.c,h.nu,h.o1,h.o2,h.o3,h.ce,h.cl,h.nx,h.b,h.Mu,h.lp⟩,fun m hm=>?_,rfl⟩
 have hlt:m<w.nx:=by
  by_cases hlt:m<w.nx
  .exact hlt
  .rw [hwf m (by omega)] at hm;cases hm
 refine h3.df m ?_
 rw [hold m hlt]
 exact h1.df m hm
theorem qcv {n:Nat}:∀ {ps:List Tmp} {args:List (PV K)} {vs:List V} {t t':Tree (PV K)} {lt:Tree V},qu X sz w args vs->(∀ i p,t.get i=some p->∃ v,lt.get i=some v/\Rep X sz w p v)->qew n ps args t=some t'->
  ∃ lt',qc4 n ps vs lt=some lt'/\∀ i p,t'.get i=some p->∃ v,lt'.get i=some v/\Rep X sz w p v
 | [],[],vs,t,t',lt,r,ht,h=>by
  have:=r.km;subst this
  simp only [qew,zS] at h
  subst h
  exact ⟨lt,rfl,ht⟩
 | [],_::_,vs,t,t',lt,r,ht,h=>by simp [qew] at h
 | _::_,[],vs,t,t',lt,r,ht,h=>by simp [qew] at h
 | p::ps,a::args,vs,t,t',lt,r,ht,h=>by
  obtain ⟨v,vs',rfl,r1,r2⟩:=r.kc
  simp only [qew] at h
  rcases z9 h with ⟨_,h1⟩ | ⟨hb,h1⟩
  .cases h1
  .obtain ⟨lt',e1,e2⟩:=qcv (lt:=lt.set p v) r2 (fun i q hq=>by
    rw [Tree.kq] at hq ⊢
    by_cases hi:i=p
    .rw [zT hi] at hq ⊢
     cases hq
     exact ⟨v,rfl,r1⟩
    .rw [zF hi] at hq ⊢
     exact ht i q hq) h1
   refine ⟨lt',?_,e2⟩
   simp only [qc4,hb,zO]
   exact e1
theorem q36 {E:Env} {l:Nat} {args:List V} {H:Heap} {Q:V->Heap->Prop} {st:LoopState} {p:Option Code} {lt t:Tree V} {ln ld:Nat} {lp:List Tmp} {la lb:Code} (hl:H.get l=some (.loop st p lt ln lp la lb ld)) (hp:qc4 ln lp args lt=some t)
  (h:Wp E 0 (some l) la {tmps:=t,n:=ln,defers:=[]} H fun ex fr H1=>ex=.normal/\∃ H2,qun H1 l=some H2/\Wp E 0 (some l) lb fr H2 fun ex' fr' H3=>∃ v H4,qmc l (ex',fr',H3)=some (.ret v,H4)/\Q v H4):qcr E (.round l) args H Q:=by
 obtain ⟨⟨ex,fr,H1⟩,⟨k0,h1⟩,h0,H2,hb,⟨x,⟨k1,h2⟩,v,H4,h3,h4⟩⟩:=h
 simp only at h0
 subst h0
 refine ⟨v,H4,⟨max k0 k1+1,fun k hk=>?_⟩,h4⟩
 obtain ⟨k,rfl⟩:∃ g,k=g+1:=⟨k-1,by omega⟩
 simp only [jw,hl,hp,zB,h1 k (by omega)]
 simp only at hb
 rw [hb]
 simp only [zB]
 simp only at h2
 rw [h2 k (by omega)]
 simp only [zB]
 exact h3
theorem qx6 (ok:CfgOk X sz C) (ok2:CfgOk2 X C) (tok:qgv X sz C tbl) (iok:qlb X sz C inl) {id:Nat} {args:List (PV K)} {st:StV K} {k:PV K->StV K->Prop} (h:q2q (qo X tbl inv meas) C inl id args st k) {base H:Heap} {w:Wd} {vs:List V}
  (R:RelH X sz C base st H w) (ra:qu X sz w args vs):qcr C.E (.round (w.c id)) vs H fun v H'=>∃ p st' w',k p st'/\st'.tmps=st.tmps/\st'.n=st.n/\RelH X sz C base st' H' w'/\Le w w'/\Rep X sz w' p v:=by
 unfold q2q at h
 split at h
 .rename_i r hl
  split at h
  .rename_i hm
   obtain ⟨t,ht,h1⟩:=qb h
   obtain ⟨hcl,hM,g,p1,p2,p3,p4,p5,p6,p7⟩:=R.cells id _ hl
   obtain ⟨hid,hnext,hbase⟩:=R.cl id hcl
   have hidn:id<w.n:=by rw [R.n];exact hid
   rw [hm] at p2
   let w0:Wd:={w with fl:=w.nx}
   have R0:RelH X sz C base st H w0:=R.qk8 ok w.nx
   have ra0:qu X sz w0 args vs:=ra.qdf ok.len (LeB.qk8 w w.nx)
   rw [p3,p4] at ht
   obtain ⟨lt',e1,e2⟩:=qcv (lt:=g.lt) ra0 (fun i p hp=>by
    obtain ⟨v,a,b⟩:=p7 i p hp
    exact ⟨v,a,b.qdf ok.len (LeB.qk8 w w.nx)⟩) ht
   have F0:Rel X sz C base {st with tmps:=t,n:=r.n} {tmps:=lt',n:=g.ln,defers:=[]} H w0:=⟨R0.alike rfl rfl rfl rfl,e2,p3.symm,.nil (zN _)⟩
   have hrd:q3k w0 (some id) (some (w.c id)):=⟨hidn,rfl⟩
   refine q36 (l:=w.c id) (t:=lt') (by rw [p2];rfl) e1 ?_
   rw [<-p5]
   refine (kv (fnE:=0) ok ok2 tok iok hrd F0 h1).mono fun ex fr1 H1 hA=>?_
   obtain ⟨_,st1,w1,hk,F1,hle1⟩:=hA
   cases ex with
   | normal=>
    refine ⟨rfl,?_⟩
    simp only at hk
    split at hk
    .rename_i r1 hl1
     split at hk
     .rename_i hm1
      obtain ⟨hcl1,hM1,g1,q1,q2,_⟩:=F1.h.cells id _ hl1
      have hc1:w1.c id=w.c id:=hle1.c id hidn
      have hg1:g1=g:=by
       have:w1.lp id=w.lp id:=hle1.lp id hidn
       rw [this,p1] at q1
       exact (Option.some.inj q1).symm
      subst hg1
      rw [hc1,hm1] at q2
      have hro1:H1.ro<=w.c id:=by rw [F1.h.keeps.ro,<-hc1];exact zR F1.h.rob.1 (F1.h.cl _ hcl1).2.2
      have hT1:∀ i p,r.tmps.get i=some p->∃ v,g1.lt.get i=some v/\Rep X sz w1 p v:=fun i p hp=>by
       obtain ⟨v,a,b⟩:=p7 i p hp
       exact ⟨v,a,(b.qdf ok.len (LeB.qk8 w w.nx)).mono ok.len hle1⟩
      obtain ⟨w2,R2,hle2⟩:=qiv ok F1.h (ct':=.lp {r with mode:=.busy}) (o:=qfi g1 .busy) hl1 ⟨g1,q1,rfl,p3,p4,p5,p6,hT1⟩
      rw [hc1] at R2
      have hle02:=hle1.trans hle2
      refine ⟨H1.put (w.c id) (qfi g1 .busy),?_,?_⟩
      .simp only [qun,q2,qfi]
       exact qbs hro1
      have F2:Rel X sz C base {st1 with cells:=qeh st1.cells id (.lp {r with mode:=.busy})} fr1 (H1.put (w.c id) (qfi g1 .busy)) w2:=⟨R2,fun i p hp=>by
       obtain ⟨x,a,b⟩:=F1.f i p hp
       exact ⟨x,a,b.mono ok.len hle2⟩,F1.n,F1.ds.mono hle2⟩
      rw [<-p6]
      refine (kv (fnE:=0) ok ok2 tok iok (hrd.mono hle02) F2 hk).mono fun ex fr3 H3 hB=>?_
      obtain ⟨_,st3,w3,hk3,F3,hle3⟩:=hB
      split at hk3
      .rename_i r3 hl3
       obtain ⟨hcl3,hM3,g3,u1,u2,_⟩:=F3.h.cells id _ hl3
       have hle03:=hle02.trans hle3
       have hc3:w3.c id=w.c id:=hle03.c id hidn
       have hg3:g3=g1:=by
        have:w3.lp id=w.lp id:=hle03.lp id hidn
        rw [this,p1] at u1
        exact (Option.some.inj u1).symm
       subst hg3
       rw [hc3] at u2
       have hro3:H3.ro<=w.c id:=by rw [F3.h.keeps.ro,<-hc3];exact zR F3.h.rob.1 (F3.h.cl _ hcl3).2.2
       have hT3:∀ i p,r.tmps.get i=some p->∃ v,g3.lt.get i=some v/\Rep X sz w3 p v:=fun i p hp=>by
        obtain ⟨v,a,b⟩:=hT1 i p hp
        exact ⟨v,a,(b.mono ok.len hle2).mono ok.len hle3⟩
       have hend:∀ (jump:Option Code),qf2 H3 (w.c id) jump=some (.ret (.bool jump.isNone),H3.put (w.c id) (.loop (if jump.isNone then .ready else .done) jump g3.lt g3.ln g3.lp g3.la g3.lb g3.ld)):=by
        intro jump
        simp only [qf2,u2]
        cases r3.mode with
        | done x=>cases x<;>simp only [qfi,qbs hro3,zH]
        | _=>simp only [qfi,qbs hro3,zH]
       have fin:∀ (md:LMode) (b:Bool) (ex:Ex),qmc (w.c id) (ex,fr3,H3)=some (.ret (.bool b),H3.put (w.c id) (qfi g3 md))->k (.lit b) {st3 with cells:=qeh st3.cells id (.lp {r with mode:=md}),tmps:=st.tmps,n:=st.n}->
         ∃ v H4,qmc (w.c id) (ex,fr3,H3)=some (.ret v,H4)/\∃ p st' w',k p st'/\st'.tmps=st.tmps/\st'.n=st.n/\RelH X sz C base st' H4 w'/\Le w w'/\Rep X sz w' p v:=by
        intro md b ex he hk
        obtain ⟨w4,R4,hle4⟩:=qiv ok F3.h (ct':=.lp {r with mode:=md}) (o:=qfi g3 md) hl3 ⟨g3,u1,rfl,p3,p4,p5,p6,hT3⟩
        rw [hc3] at R4
        have hfin:Le w {w4 with fl:=w.fl}:=Le.leave (fun n hn=>by rw [R.g];exact R.wf n (by rw [<-R.nx];exact hn)) (hle03.trans hle4) (.refl w4) (fun _ _=>rfl) (.refl w4)
        exact ⟨_,_,he,_,_,{w4 with fl:=w.fl},hk,rfl,rfl,(R4.qk8 ok w.fl).alike rfl rfl rfl rfl,hfin,.lit⟩
       cases ex with
       | normal=>exact fin .ready true .normal (hend none) hk3
       | ret=>exact fin (.done none) false .ret (hend (some .ret)) hk3
       | exit i=>exact fin (.done (some i)) false (.exit i) (hend (some (.exit i))) hk3
       | _=>exact (show False from hk3).elim
      .exact (show False from hk3).elim
     .exact (show False from hk).elim
    .exact (show False from hk).elim
   | _=>exact (show False from hk).elim
  .exact (show False from h).elim
 .exact (show False from h).elim
theorem ql2 {α:Type} {p:Nat->Bool}:∀ {l:List (Nat×α)} {n:Nat} {a:α},look (l.filter fun x=>p x.1) n=some a->look l n=some a
 | [],_,_,h=>by cases h
 | (i,b)::l,n,a,h=>by
  rw [List.filter_cons] at h
  by_cases hn:i=n
  .subst hn
   cases hp:p i with
   | true=>simp only [hp,if_true,look,Nat.beq_refl,zO] at h ⊢;exact h
   | false=>
    exfalso
    simp only [hp,Bool.false_eq_true,if_false] at h
    have hm:=qfh h
    rw [List.mem_filter] at hm
    have:=hm.2
    rw [hp] at this
    cases this
  .have hb:Nat.beq i n=false:=by rw [<-Bool.not_eq_true,Nat.beq_eq];exact hn
   simp only [look,hb,zQ]
   cases hp:p i with
   | true=>simp only [hp,if_true,look,hb,zQ] at h;exact ql2 h
   | false=>simp only [hp,Bool.false_eq_true,if_false] at h;exact ql2 h
theorem zhc {lo:Nat} {vs:List (PV K)} {cells:List (Nat×ZT K)} {id:Nat} {ct:ZT K} (h:look (gcC lo vs cells) id=some ct):look cells id=some ct:=by
 unfold gcC at h
 rw [cond_eq_ite] at h
 split at h
 .exact h
 .exact ql2 (p:=fun i=>!Nat.ble lo i || (q8j lo cells 3 ((qpw vs++cells.flatMap fun x=>bif Nat.ble lo x.1 then [] else x.2.refs).filter (Nat.ble lo))).any (Nat.beq i)) h
theorem RelH.zqn (R:RelH X sz C base st H w) {cs:List (Nat×ZT K)} (h:∀ {id ct},look cs id=some ct->look st.cells id=some ct):RelH X sz C base {st with cells:=cs} H w:=
 ⟨R.wf,R.rob,R.g,R.nx,R.b,R.Mlt,R.n,R.one,R.keeps,R.cl,R.cinj,fun id ct hl=>R.cells id ct (h hl),R.owns,R.ownn,R.eta,R.einj,R.ce,R.known,R.globs⟩
theorem qw2 (ok:CfgOk X sz C) (ok2:CfgOk2 X C) (tok:qgv X sz C tbl) {f:Nat} {args:List (PV K)} {st:StV K} {k:PV K->StV K->Prop} (h:qw1 (qo X tbl inv meas) f args st k) {base H:Heap} {w:Wd} {vs:List V}
  (R:RelH X sz C base st H w) (ra:qu X sz w args vs):qcr C.E (.func f) vs H fun v H'=>∃ p st' w',k p st'/\st'.tmps=st.tmps/\st'.n=st.n/\RelH X sz C base st' H' w'/\Le w w'/\Rep X sz w' p v:=by
 unfold qw1 at h
 obtain ⟨qs,st1,w1,h,R1,hle,r1⟩:=qi1 ok R ra h
 split at h
 .rename_i pre r hfn
  cases hd:distinct (qa4 r.flat) with
  | false=>rw [hd] at h;exact absurd h id
  | true=>
   rw [hd] at h
   simp only [zO] at h
   obtain ⟨hpre,hk⟩:=h
   have hro:H.ro<=H.next:=by rw [R1.keeps.ro];exact zR R1.rob.1 R1.keeps.next
   have hw:({w1 with g:=H.get}:Wd)=w1:=by rw [<-R1.g]
   obtain ⟨form,hcall⟩:=qqv ok2 tok R1 (H1:=H) (.same R1 (fun _=>rfl) rfl rfl hro) (by rw [hw];exact r1) hfn hpre
   refine hcall.mono fun v H' hA=>?_
   obtain ⟨w',a⟩:=hA
   obtain ⟨w'',e1,e2,R',hle',r'⟩:=qie ok ok2 R1 form (H1:=H) rfl a (J:=H') a.keeps.old (fun _ _ h=>h) (fun _ _=>rfl) rfl a.keeps.ro a.keeps.zb
   exact ⟨_,_,w'',hk,rfl,rfl,R'.alike rfl rfl rfl rfl,hle.trans hle',r'⟩
 .exact absurd h id
theorem qp7 (ok:CfgOk X sz C) (ok2:CfgOk2 X C) (tok:qgv X sz C tbl) (hq:qf C) (iok:qlb X sz C inl) {f:Nat} {args:List (PV K)} {st:StV K} {k:PV K->StV K->Prop} (h:q2p (qo X tbl inv meas) C inl f args st k) {base H:Heap} {w:Wd} {vs:List V}
  (R:RelH X sz C base st H w) (ra:qu X sz w args vs):qcr C.E (.func f) vs H fun v H'=>∃ p st' w',k p st'/\st'.tmps=st.tmps/\st'.n=st.n/\RelH X sz C base st' H' w'/\Le w w'/\Rep X sz w' p v:=by
 unfold q2p at h
 cases hans:C.ans f with
 | true=>rw [hans] at h;exact absurd h id
 | false=>
  rw [hans] at h
  simp only [zQ] at h
  have hs:=hq.1 f hans
  cases hml:((qo X tbl inv meas).fn f).isSome&&args.any zq6 with
  | true=>
   rw [hml] at h
   simp only [zO] at h
   exact qw2 ok ok2 tok h R ra
  | false=>
  rw [hml] at h
  simp only [zQ] at h
  cases hprim:C.prim f with
  | true=>
   rw [hprim] at h
   simp only [zO] at h
   exact q51 ok hq.2 hprim h R ra
  | false=>
  rw [hprim] at h
  simp only [zQ] at h
  split at h
  .rename_i fi hfi
   split at h
   .rename_i c hc
    have ra0:qu X sz {w with fl:=w.nx} args vs:=ra.qdf ok.len (LeB.qk8 w w.nx)
    have R1:Rel X sz C base {st with tmps:=Tree.ofList args,n:=max args.length fi.ntmps} {tmps:=qey vs,n:=max vs.length fi.ntmps,defers:=[]} H {w with fl:=w.nx}:=by
     refine ⟨(R.qk8 ok w.nx).alike rfl rfl rfl rfl,fun i p hp=>?_,by rw [ra.1],.nil (zN _)⟩
     have hp':(Tree.ofList args).get i=some p:=hp
     rw [Tree.qn3] at hp'
     obtain ⟨v,h1,h2⟩:=ra0.get hp'
     exact ⟨v,zdt h1,h2⟩
    refine q71 hs hfi hc ((kv (rd:=none) (round:=none) ok ok2 tok iok trivial R1 h).mono fun ex fr' H' hA=>?_)
    obtain ⟨_,st1,w1,hk,R2,hle⟩:=hA
    have key:onS False (qg5 (qo X tbl inv meas) C st1 fi.results) (fun vs=>q2e (qo X tbl inv meas) (C.keepM f) vs st1 fun vs st2=>k (q8v vs) {st2 with tmps:=st.tmps,n:=st.n,cells:=gcC st.next vs st2.cells})->∃ H'',qc3 fr'.defers H'=some H''/\∃ vs,jb C.E fr' H'' fi.results=some vs/\∃ p st' w',k p st'/\st'.tmps=st.tmps/\st'.n=st.n/\RelH X sz C base st' H'' w'/\Le w w'/\Rep X sz w' p (oneOf vs):=by
     intro hm
     obtain ⟨qs,hps,hm⟩:=qb hm
     obtain ⟨H'',w2,hmk,R3,hB,hfl,hold⟩:=qsr ok R2.h (F:=w.nx) (fun x hx=>by
      obtain ⟨m,a1,a2,a3,a4⟩:=R2.ds.1 x hx
      exact ⟨m,a1,a2,by rw [hle.fl] at a3;exact a3,a4⟩) R2.ds.2.1
     obtain ⟨us,e1,e2⟩:=qix (fr:=fr') R3 (fun i p hp=>by
      obtain ⟨v,h1,h2⟩:=R2.f i p hp
      exact ⟨v,h1,h2.qdf ok.len hB⟩) hps
     obtain ⟨qs',st2,w3,hm,R4,hle3,e3⟩:=qxz ok R3 e2 hm
     have hfin:Le w {w3 with fl:=w.fl}:=Le.leave (fun n hn=>by rw [R.g];exact R.wf n (by rw [<-R.nx];exact hn)) hle hB hold hle3
     exact ⟨H'',hmk,us,e1,_,_,{w3 with fl:=w.fl},hm,rfl,rfl,((R4.qk8 ok w.fl).zqn (cs:=gcC st.next qs' st2.cells) zhc).alike rfl rfl rfl rfl,hfin,zem (e3.qdf ok.len (LeB.qk8 w3 w.fl))⟩
    cases ex with
    | normal=>exact ⟨.inl rfl,key hk⟩
    | ret=>exact ⟨.inr rfl,key hk⟩
    | _=>exact absurd hk id
   .rename_i hc
    split at h
    .rename_i x hext
     obtain ⟨v,vs',rfl,r1,r2⟩:=ra.kc
     have:=r2.km;subst this
     exact zdi hs hfi hc (v:=v) (by simp only [hext,zg8]) ⟨x,st,w,h,rfl,rfl,R,.refl w,r1⟩
    .exact absurd h id
  .exact absurd h id
theorem qxb (ok:CfgOk X sz C) (ok2:CfgOk2 X C) (tok:qgv X sz C tbl) (hq:qf C):∀ n,qlb X sz C (zbr (qo X tbl inv meas) C n)
 | 0=>fun g args st k h=>absurd h id
 | n+1=>fun t args st k h base H w vs R ra=>match t,h with
  | .func f,h=>qp7 ok ok2 tok hq (qxb ok ok2 tok hq n) h R ra
  | .round id,h=>qx6 ok ok2 tok (qxb ok ok2 tok hq n) h R ra
theorem qhz:∀ {ps rs:List (PV K)} {obs:List Prop},qks (qo X tbl inv meas) st ps rs=some obs->∀ j i,(j,i) ∈ jk ps rs->∃ s,look st.owns i=some s
 | [],rs,obs,h,j,i,hm=>by cases rs<;>simp [jk] at hm
 | _::_,[],obs,h,j,i,hm=>by simp [qks] at h
 | p::ps,r::rs,obs,h,j,i,hm=>by
  simp only [qks] at h
  obtain ⟨x,h1,h2⟩:=zI.1 h
  obtain ⟨y,h3,_⟩:=zM.1 h2
  have ih:=qhz h3 j i
  cases p with
  | list c l o=>
   cases o with
   | none=>cases r<;>exact ih hm
   | some a=>
    obtain ⟨i',s'⟩:=a
    cases r with
    | list c' l' o'=>
     cases o' with
     | none=>exact ih hm
     | some b=>
      obtain ⟨j',s2⟩:=b
      simp only [jk,zD] at hm
      rcases hm with hm | hm
      .cases hm
       simp only [meets,Option.isSome_some,Bool.true_and] at h1
       rcases z9 h1 with ⟨hb,_⟩ | ⟨_,hb⟩
       .simp only [Bool.not_eq_false',qdc] at hb
        split at hb
        .rename_i s3 hs3;exact ⟨s3,hs3⟩
        .cases hb
       .cases hb
      .exact ih hm
    | _=>exact ih hm
  | _=>cases r<;>exact ih hm
theorem qpu:∀ {ps rs:List (PV K)},(jk ps rs).map (·.2)=qis ps rs
 | [],rs=>by cases rs<;>simp [jk,qis]
 | p::ps,[]=>by cases p<;>simp [jk,qis]
 | p::ps,r::rs=>by
  have ih:=qpu (ps:=ps) (rs:=rs)
  cases p with
  | list c l o=>
   cases o with
   | none=>cases r<;>simp only [jk,qis,ih]
   | some a=>
    cases r with
    | list c' l' o'=>
     cases o' with
     | none=>simp only [jk,qis,ih]
     | some b=>simp only [jk,qis,List.map_cons,ih]
    | _=>simp only [jk,qis,ih]
  | _=>cases r<;>simp only [jk,qis,ih]
theorem qpt:∀ {ps rs:List (PV K)},((jk ps rs).map (·.1)).Sublist (qa4 rs)
 | [],rs=>by cases rs<;>simp [jk]
 | p::ps,[]=>by cases p<;>simp [jk]
 | p::ps,r::rs=>by
  have ih:=qpt (ps:=ps) (rs:=rs)
  cases r with
  | list c' l' o'=>
   cases o' with
   | none=>cases p with
    | list c l o=>cases o<;>exact ih
    | _=>exact ih
   | some b=>
    cases p with
    | list c l o=>
     cases o with
     | none=>exact ih.trans (List.sublist_cons_self _ _)
     | some a=>exact ih.cons_cons _
    | _=>exact ih.trans (List.sublist_cons_self _ _)
  | _=>cases p with
   | list c l o=>cases o<;>exact ih
   | _=>exact ih
theorem qsp:∀ {l:List (Nat×Nat)} {j i:Nat},(l.map (·.1)).Nodup->(j,i) ∈ l->look l j=some i
 | [],j,i,_,h=>by cases h
 | (a,b)::l,j,i,hn,h=>by
  simp only [List.map_cons,List.nodup_cons] at hn
  simp only [look,cond_eq_ite,Nat.beq_eq]
  rcases zD.1 h with h | h
  .cases h
   rw [zT rfl]
  .rw [zF]
   .exact qsp hn.2 h
   .intro he
    subst he
    exact hn.1 (List.mem_map.2 ⟨_,h,rfl⟩)
theorem qpo (ok2:CfgOk2 X C) (R:RelH X sz C base st H w) {w':Wd} (hg:w'.g=w.g) (hM':∀ nm x,w.g nm=some x->¬ w.M nm->¬ w'.M nm) (hce:w'.ce=w.ce) (ho:∀ i,w'.owns i=some 0):∀ {ps rs:List (PV K)} {obs:List Prop} {vs:List V},
  qks (qo X tbl inv meas) st ps rs=some obs->(∀ q ∈ obs,q)->qu X sz w ps vs->(∀ r ∈ rs,RT r)->(∀ j i,(j,i) ∈ jk ps rs->w'.eta j=w.eta i)->(∀ j ∈ qa4 rs,j<w'.n)->qu X sz w' rs vs
 | [],[],obs,vs,h,hq,r,ht,he,hn=>by rw [r.km];exact .nil
 | [],_::_,obs,vs,h,hq,r,ht,he,hn=>by simp [qks] at h
 | _::_,[],obs,vs,h,hq,r,ht,he,hn=>by simp [qks] at h
 | p::ps,q::rs,obs,vs,h,hq,r,ht,he,hn=>by
  obtain ⟨v,vs',rfl,r1,r2⟩:=r.kc
  simp only [qks] at h
  obtain ⟨x,h1,h2⟩:=zI.1 h
  obtain ⟨y,h3,rfl⟩:=zM.1 h2
  have hsubP:∀ j i,(j,i) ∈ jk ps rs->(j,i) ∈ jk (p::ps) (q::rs):=by
   intro j i hm
   cases p with
   | list c l o=>
    cases o with
    | none=>cases q<;>exact hm
    | some a=>
     cases q with
     | list c' l' o'=>
      cases o' with
      | none=>exact hm
      | some b=>exact zG _ hm
     | _=>exact hm
   | _=>cases q<;>exact hm
  have hsubI:∀ j ∈ qa4 rs,j ∈ qa4 (q::rs):=by
   intro j hm
   cases q with
   | list c' l' o'=>
    cases o' with
    | none=>exact hm
    | some b=>exact zG _ hm
   | _=>exact hm
  have ih:=qpo ok2 R hg hM' hce ho h3 (fun q hq'=>hq q (List.mem_append_right _ hq')) r2 (fun r hr=>ht r (zG _ hr)) (fun j i hm=>he j i (hsubP j i hm)) (fun j hj=>hn j (hsubI j hj))
  refine .cons ?_ ih
  have hx:∀ a ∈ x,a:=fun a ha=>hq a (List.mem_append_left _ ha)
  have hT:=ht q zC
  cases q with
  | int k' l' b=>
   cases p with
   | int k l a=>
    simp only [meets] at h1
    split at h1
    .rename_i hk
     subst hk
     cases h1
     have:a=b:=hx _ zC
     subst this
     cases r1
     have:l'=none:=hT
     subst this
     exact .int fun m hm=>by cases hm
    .cases h1
   | _=>simp [meets] at h1
  | sb id neg b pt pf=>
   obtain ⟨t1,t2,t3⟩:id=0/\(pt↔b=true)/\(pf↔b=false):=hT
   have:v=.bool b:=by
    cases p with
    | lit a=>
     simp only [meets,zS] at h1
     subst h1
     have:a=b:=hx _ zC
     subst this
     cases r1
     rfl
    | sb id' neg' a pt' pf'=>
     simp only [meets,zS] at h1
     subst h1
     have:a=b:=hx _ zC
     subst this
     cases r1
     rfl
    | _=>simp [meets] at h1
   subst this
   exact .sb t2 t3 fun h0=>absurd t1 h0
  | str b=>
   cases p with
   | str a=>
    simp only [meets,zS] at h1
    subst h1
    have:a=b:=hx _ zC
    subst this
    cases r1
    exact .str
   | _=>simp [meets] at h1
  | list c l o=>
   have hm:∃ l',asL (qo X tbl inv meas) c p=some l'/\l'=l/\(o.isSome=true->qdc st p=true):=by
    have e:meets (qo X tbl inv meas) st p (.list c l o)=(bif o.isSome&&!qdc st p then none else (asL (qo X tbl inv meas) c p).map fun l'=>[(qo X tbl inv meas).eqL c l' l]):=by
     cases p<;>rfl
    rw [e] at h1
    rcases z9 h1 with ⟨hb,h4⟩ | ⟨_,hb⟩
    .obtain ⟨l',hl,rfl⟩:=zM.1 h4
     refine ⟨l',hl,hx _ zC,fun hs=>?_⟩
     rw [hs] at hb
     simpa using hb
    .cases hb
   obtain ⟨l',hl,rfl,hown⟩:=hm
   have rl:=qdv r1 hl
   have rp:=rl.plain ok2.plain hg hM' .list
   cases o with
   | none=>exact rp
   | some b=>
    obtain ⟨j,s⟩:=b
    have hs0:s=0:=hT
    subst hs0
    have hown:=hown rfl
    have hj:j<w'.n:=hn j (by simp [qa4])
    have hcur:∀ cur,w'.owns j=some cur->0<=cur:=fun _ _=>Nat.zero_le _
    rcases je rp with ⟨rfl,rfl⟩ | ⟨nm,gn,off,z,cap,cs,e,gen,floor,frz,ex,rfl,hg',hf,hM2,hlen,hz,hcap,hcell,_⟩
    .exact .nlist ⟨hj,hcur,fun _=>trivial,fun _=>trivial⟩
    .refine .list hg' hf hM2 rfl hlen hz hcap hcell ⟨hj,hcur,fun _=>?_,fun h=>by cases h⟩
     cases p with
     | list c2 l2 o2=>
      cases o2 with
      | none=>simp [qdc] at hown
      | some a=>
       obtain ⟨i,s2⟩:=a
       have hcl:c2=c:=by
        unfold asL at hl
        simp only at hl
        split at hl
        .assumption
        .cases hl
       subst hcl
       have hls:look st.owns i=some s2:=by
        simp only [qdc] at hown
        split at hown
        .rename_i s3 hs3
         rw [hs3,zE hown]
        .cases hown
       have hll:l2.length=l'.length:=by
        unfold asL at hl
        simp only at hl
        split at hl
        .cases hl;rfl
        .cases hl
       have hclaim:qs7 w sz i c2 (.slice nm gn off l'.length z cap):=by
        rcases je r1 with ⟨_,hh⟩ | ⟨nm3,gn3,off3,z3,cap3,cs3,e3,gen3,floor3,frz3,ex3,hh,_,_,_,_,_,_,_,ho3⟩
        .cases hh
        .rw [hh];exact ho3.2.2.1 (by rw [R.owns];exact hls)
       have heta:w'.eta j=w.eta i:=he j i (by simp [jk])
       simp only [qs7] at hclaim ⊢
       rcases hclaim with hc | ⟨hc1,hc2,cs4,e4,floor4,frz4,ex4,hg4,hr4⟩
       .exact .inl hc
       .exact .inr ⟨hc1,by rw [heta];exact hc2,cs4,e4,floor4,frz4,ex4,by rw [hg];exact hg4,hr4.1,hr4.2.1,by rw [hce];exact hr4.2.2⟩
     | nils=>cases r1
     | _=>simp [qdc] at hown
  | _=>cases p<;>simp [meets] at h1
theorem zd4 {ps:List (PV K)} {vs:List V} (r:qu X sz w ps vs):qu X sz w (ps.flatMap P.cellsOf) (vs.flatMap V.cells):=by
 induction ps generalizing vs with
 | nil=>rw [r.km];exact .nil
 | cons p ps ih=>
  obtain ⟨v,vs',rfl,r1,r2⟩:=r.kc
  exact r1.cells.append (ih r2)
theorem qos {w':Wd} {p r:PV K} {v:V} {cs:List (PV K)} {us:List V} (ha:qc7 p r=true) (rp:Rep X sz w p v) (h:qu X sz w' (r.cellsOf++cs) (v.cells++us)):Rep X sz w' r v/\qu X sz w' cs us:=by
 have sp:∀ {a:List (PV K)} {b:List V},a.length=b.length->qu X sz w' (a++cs) (b++us)->qu X sz w' a b/\qu X sz w' cs us:=by
  intro a b hl hr
  have h1:=hr.take a.length
  have h2:=hr.drop a.length
  rw [List.take_left' rfl] at h1
  rw [List.drop_left' rfl] at h2
  rw [hl,List.take_left' rfl] at h1
  rw [hl,List.drop_left' rfl] at h2
  exact ⟨h1,h2⟩
 cases p with
 | agg a=>
  obtain ⟨vs,rfl,rl⟩:=rp.qek
  cases r with
  | agg b=>
   simp only [qc7] at ha
   have hl:=zE ha
   obtain ⟨q1,q2⟩:=sp (a:=b) (b:=vs) (by rw [<-hl,rl.1]) h
   exact ⟨.qqi q1,q2⟩
  | _=>simp [qc7] at ha
 | tuple a=>cases r<;>simp [qc7] at ha
 | _=>
  have hv:=rp.cellsOf (by intro ps hh;cases hh)
  cases r with
  | agg b=>simp [qc7] at ha
  | tuple b=>simp [qc7] at ha
  | _=>
   obtain ⟨q1,q2⟩:=sp (a:=P.cellsOf _) (b:=v.cells) (by rw [hv.2];rfl) h
   rw [hv.2] at q1
   obtain ⟨u,us',he,e1,e2⟩:=qu.kc q1
   simp only [List.cons.injEq] at he
   obtain ⟨rfl,rfl⟩:=he
   exact ⟨e1,q2⟩
theorem quf {w':Wd}:∀ {ps rs:List (PV K)} {vs:List V},qnp ps rs=true->qu X sz w ps vs->qu X sz w' (rs.flatMap P.cellsOf) (vs.flatMap V.cells)->qu X sz w' rs vs
 | [],[],vs,_,r,_=>by rw [r.km];exact .nil
 | [],_::_,vs,h,_,_=>by simp [qnp] at h
 | _::_,[],vs,h,_,_=>by simp [qnp] at h
 | p::ps,q::rs,vs,h,r,h2=>by
  obtain ⟨v,vs',rfl,r1,r2⟩:=r.kc
  simp only [qnp,zA] at h
  rw [List.flatMap_cons,List.flatMap_cons] at h2
  obtain ⟨a1,a2⟩:=qos h.1 r1 h2
  exact .cons a1 (quf h.2 r2 a2)
theorem qy6 {p:PV K} (h:∀ ps,p≠.tuple ps):p.flat=p.cellsOf:=by
 cases p with
 | tuple ps=>exact absurd rfl (h ps)
 | _=>rfl
theorem zey {w':Wd} {p r:PV K} {v:V} (hs:zbj p r=true) (rp:Rep X sz w p v) (h:∀ us,qu X sz w p.flat us->qu X sz w' r.flat us):Rep X sz w' r v:=by
 by_cases hp:∃ ps,p=.tuple ps
 .obtain ⟨ps,rfl⟩:=hp
  obtain ⟨vs,rfl,rl⟩:=rp.qge
  by_cases hr:∃ rs,r=.tuple rs
  .obtain ⟨rs,rfl⟩:=hr
   have hs':qnp ps rs=true:=hs
   exact .tuple' (quf hs' rl (h _ (zd4 rl)))
  .exfalso
   cases r with
   | tuple rs=>exact hr ⟨rs,rfl⟩
   | _=>cases hs
 .by_cases hr:∃ rs,r=.tuple rs
  .exfalso
   obtain ⟨rs,rfl⟩:=hr
   cases p with
   | tuple ps=>exact hp ⟨ps,rfl⟩
   | _=>cases hs
  .have hs':qc7 p r=true:=by
    cases p with
    | tuple ps=>exact absurd ⟨ps,rfl⟩ hp
    | _=>cases r with
     | tuple rs=>exact absurd ⟨rs,rfl⟩ hr
     | _=>exact hs
   have h1:=h v.cells (by rw [qy6 (fun ps he=>hp ⟨ps,he⟩)];exact rp.cells)
   rw [qy6 (fun rs he=>hr ⟨rs,he⟩)] at h1
   exact (qos (cs:=[]) (us:=[]) hs' rp (by simpa using h1)).1
theorem qy8 (ok:CfgOk X sz C) (ok2:CfgOk2 X C) (tok:qgv X sz C tbl) (hq:qf C) {depth f:Nat} {args:List (PV K)} {r:PV K} (hpl:∀ p ∈ args,Plain p) (hT:∀ p ∈ r.flat,RT p) (h:zv (qo X tbl inv meas) C depth f args r):kx X sz C f args r:=by
 intro H M vs S ra
 unfold zv at h
 have hle1:Le (wd0 H M C.codec) {wd0 H M C.codec with n:=1}:=Le.ext (w:=wd0 H M C.codec) (m:=1) (nu':=fun _=>false) (Nat.zero_le _) (fun _ _=>rfl)
 have ra1:=ra.mono ok.len hle1
 obtain ⟨nu',g1,g2,g3⟩:=qdx ok.len ra1 (zN 1)
 let w0:Wd:={wd0 H M C.codec with n:=(jn args 1).2,nu:=nu'}
 have hle0:Le (wd0 H M C.codec) w0:=Le.ext (w:=wd0 H M C.codec) (Nat.zero_le _) (fun id hi=>by have:id<0:=hi;omega)
 have R0:RelH X sz C H {tmps:=.nil,n:=0,cells:=[],owns:=[],next:=(jn args 1).2,known:=[]} H w0:=by
  refine ⟨S.wf,S.ro,rfl,rfl,rfl,S.Mlt,rfl,g2,.refl H,fun _ hc=>False.elim hc,fun _ _ hc=>False.elim hc,fun id ps hl=>(by cases hl),fun _=>rfl,fun i s hl=>(by cases hl),fun i s nm hl=>(by cases hl),fun i j s s' nm hl=>(by cases hl),rfl,fun id b hl=>(by cases hl),fun gn ps hg=>?_⟩
  obtain ⟨q0,vs',e',fl,fz,ex',q1,q2,q3⟩:=S.globs gn ps hg
  exact ⟨q0,vs',e',fl,fz,ex',q1,q2,q3.mono ok.len hle0⟩
 refine (qp7 ok ok2 tok hq (qxb ok ok2 tok hq depth) h R0 g3).mono fun v H' hA=>?_
 obtain ⟨p,st',w',hk,_,_,R,hle,rp⟩:=hA
 unfold ends at hk
 obtain ⟨hb,hk⟩:=cond_prop hk
 simp only [zA] at hb
 split at hk
 .rename_i l hl
  obtain ⟨hobs,_⟩:=qov hk
  let pairs:=jk p.flat r.flat
  have hnd:(pairs.map (·.1)).Nodup:=(qfc hb.2).sublist qpt
  have hnd2:(pairs.map (·.2)).Nodup:=by rw [qpu];exact qfc hb.1.2
  let w2:Wd:={g:=H'.get,M:=fun n=>if n<H.next then M n else w'.M n,c:=fun _=>0,nu:=fun _=>false,n:=qn6 (qa4 r.flat),owns:=fun _=>some 0,eta:=fun j=>(look pairs j).bind w'.eta,ce:=C.codec,cl:=fun _=>False,nx:=H'.next,b:=H.next,lp:=fun _=>none,fl:=0}
  have heta:∀ j i,(j,i) ∈ pairs->w2.eta j=w'.eta i:=by
   intro j i hm
   show (look pairs j).bind w'.eta=_
   rw [qsp hnd hm]
   rfl
  have hinv:∀ j nm,w2.eta j=some nm->∃ i,(j,i) ∈ pairs/\w'.eta i=some nm:=by
   intro j nm he
   obtain ⟨i,h1,h2⟩:=zI.1 he
   exact ⟨i,qfh h1,h2⟩
  have hold:=R.keeps
  refine ⟨w2,R.keeps,R.wf,rfl,fun n hn=>?_,fun n hn=>?_,rfl,rfl,fun _=>rfl,fun j nm he=>?_,fun j1 j2 nm e1 e2=>?_,?_⟩
  .show (if n<H.next then M n else w'.M n)↔M n
   rw [zT hn]
  .have hn':(if n<H.next then M n else w'.M n):=hn
   split at hn'
   .rename_i hlt;exact zL hlt R.keeps.next
   .exact R.Mlt n hn'
  .obtain ⟨i,h1,h2⟩:=hinv j nm he
   obtain ⟨s,hs⟩:=qhz hl j i h1
   obtain ⟨b1,b2,b3⟩:=R.eta i s nm hs h2
   refine ⟨b1,b2,?_⟩
   show ¬ (if nm<H.next then M nm else w'.M nm)
   rw [zF (by omega)]
   exact b3
  .obtain ⟨i1,a1,b1⟩:=hinv j1 nm e1
   obtain ⟨i2,a2,b2⟩:=hinv j2 nm e2
   obtain ⟨s1,hs1⟩:=qhz hl j1 i1 a1
   obtain ⟨s2,hs2⟩:=qhz hl j2 i2 a2
   have:=R.einj i1 i2 s1 s2 nm hs1 hs2 b1 b2
   subst this
   have key:∀ (l:List (Nat×Nat)),(l.map (·.2)).Nodup->(j1,i1) ∈ l->(j2,i1) ∈ l->j1=j2:=by
    intro l
    induction l with
    | nil=>intro _ h;cases h
    | cons x l ih=>
     intro hn h1 h2
     simp only [List.map_cons,List.nodup_cons] at hn
     rcases zD.1 h1 with h1 | h1<;>rcases zD.1 h2 with h2 | h2
     .rw [<-h1] at h2;cases h2;rfl
     .exact absurd (List.mem_map.2 ⟨_,h2,by rw [<-h1]⟩) hn.1
     .exact absurd (List.mem_map.2 ⟨_,h1,by rw [<-h2]⟩) hn.1
     .exact ih hn.2 h1 h2
   exact key pairs hnd2 a1 a2
  .refine zey hb.1.1 rp fun us hus=>?_
   exact qpo ok2 R (w':=w2) R.g.symm (fun nm x _ hm=>by
    show ¬ (if nm<H.next then M nm else w'.M nm)
    split
    .rename_i hlt;exact fun h0=>hm (hle.Mu nm hlt h0)
    .exact hm) R.ce.symm (fun _=>rfl) hl hobs hus hT heta (fun j hj=>(qq1 _ 0).2 j hj)
 .exact absurd hk id
end
end Go.E3
/- E3: TOOLS for claims: tables by lists, list elements of a claim's own types. -/
namespace Go.E3
open Go Go.E2
variable {K:Nat->Type}
def zt:List (Nat×Nat×Ann)->Nat->Nat->Option Ann
 | [],_,_=>none
 | (f,p,a)::l,g,q=>bif Nat.beq f g&&Nat.beq p q then some a else zt l g q
abbrev Ct (K:Nat->Type):=List Sh×(List (NV K)->Option (Prop×PV K))
def zq:List (Nat×Ct K)->Tbl K
 | [],_=>none
 | (f,c)::l,g=>bif Nat.beq f g then some c else zq l g
section
variable {X:Codecs K} {sz:Nat->Nat} {C:ZC K}
def jc (X:Codecs K) (sz:Nat->Nat) (C:ZC K) (f:Nat) (c:Ct K):Prop:=
 ∀ ns pre r,c.2 ns=some (pre,r)->pre->∃ args,qlm c.1 ns=some args/\kx X sz C f args r/\Form r
theorem qq:qgv X sz C (zq []):=fun f shs res ns pre r h=>by cases h
theorem qa {f:Nat} {c:Ct K} {l:List (Nat×Ct K)} (h:jc X sz C f c) (hl:qgv X sz C (zq l)):qgv X sz C (zq ((f,c)::l)):=by
 intro g shs res ns pre r h1 h2 h3
 simp only [zq,cond_eq_ite,Nat.beq_eq] at h1
 split at h1
 .rename_i hf
  subst hf
  cases h1
  exact h ns pre r h2 h3
 .exact hl g shs res ns pre r h1 h2 h3
theorem CfgOk.ann (h:CfgOk X sz C) (a:Nat->Nat->Option Ann):CfgOk X sz {C with ann:=a}:=⟨h.len,h.pos,h.size,h.inj,h.one,h.u8,h.pack⟩
theorem CfgOk2.ann (h:CfgOk2 X C) (a:Nat->Nat->Option Ann):CfgOk2 X {C with ann:=a}:=⟨h.plain,h.zb⟩
theorem kx.ann {f:Nat} {args:List (PV K)} {r:PV K} (h:kx X sz C f args r) (a:Nat->Nat->Option Ann):kx X sz {C with ann:=a} f args r:=by
 intro H M vs S ra
 refine (h H M vs ⟨S.wf,S.ro,S.Mlt,S.globs⟩ ra).mono fun v H' hA=>?_
 obtain ⟨w',b⟩:=hA
 exact ⟨w',b.keeps,b.wf,b.g,b.M,b.Mlt,b.ce,b.n,b.owns,b.eta,b.einj,b.rep⟩
theorem kx.zsd {f:Nat} {args:List (PV K)} {r:PV K} {a:Nat->Nat->Option Ann} (h:kx X sz {C with ann:=a} f args r):kx X sz C f args r:=by
 intro H M vs S ra
 refine (h H M vs ⟨S.wf,S.ro,S.Mlt,S.globs⟩ ra).mono fun v H' hA=>?_
 obtain ⟨w',b⟩:=hA
 exact ⟨w',b.keeps,b.wf,b.g,b.M,b.Mlt,b.ce,b.n,b.owns,b.eta,b.einj,b.rep⟩
theorem ke (ok:CfgOk X sz C) (ok2:CfgOk2 X C) {l:List (Nat×Ct K)} (tok:qgv X sz C (zq l)) (hq:qf C) {inv:Nat->List (NV K)->Prop} {meas:Nat->List (NV K)->Nat} {ann:List (Nat×Nat×Ann)} {depth f:Nat} {args:List (PV K)} {r:PV K} {VC:Prop}
  (hpl:∀ p ∈ args,Plain p) (hT:∀ p ∈ r.flat,RT p) (hvc:zv (qo X (zq l) inv meas) {C with ann:=zt ann} depth f args r=VC) (h:VC):kx X sz C f args r:=
 qy8 (C:={C with ann:=zt ann}) (tbl:=zq l) (inv:=inv) (meas:=meas) (ok.ann _) (ok2.ann _) (fun f shs res ns pre r h1 h2 h3=>by
  obtain ⟨as,e1,e2,e3⟩:=tok f shs res ns pre r h1 h2 h3
  exact ⟨as,e1,e2.ann _,e3⟩) hq hpl hT (hvc.symm ▸ h) |>.zsd
theorem qvn (ok:CfgOk X sz C) (ok2:CfgOk2 X C) {l:List (Nat×Ct K)} (tok:qgv X sz C (zq l)) (hq:qf C) {inv:Nat->List (NV K)->Prop} {meas:Nat->List (NV K)->Nat} {ann:List (Nat×Nat×Ann)} {depth f:Nat} {args:List (PV K)} {r:PV K} {VC:Prop}
  (hpl:∀ p ∈ args,Plain p) (hT:∀ p ∈ r.flat,RT p) (hvc:zv (qo X (zq l) inv meas) {C with ann:=zt ann,born:=fun _=>false,keepM:=fun _=>false} depth f args r=VC) (h:VC):kx X sz C f args r:=by
 have q:=qy8 (C:={C with ann:=zt ann,born:=fun _=>false,keepM:=fun _=>false}) (tbl:=zq l) (inv:=inv) (meas:=meas) ⟨ok.len,ok.pos,ok.size,ok.inj,ok.one,ok.u8,ok.pack⟩ ⟨ok2.plain,ok2.zb⟩ (fun f shs res ns pre r h1 h2 h3=>by
  obtain ⟨as,e1,e2,e3⟩:=tok f shs res ns pre r h1 h2 h3
  refine ⟨as,e1,fun H M vs S ra=>(e2 H M vs ⟨S.wf,S.ro,S.Mlt,S.globs⟩ ra).mono fun v H' hA=>?_,e3⟩
  obtain ⟨w',b⟩:=hA
  exact ⟨w',b.keeps,b.wf,b.g,b.M,b.Mlt,b.ce,b.n,b.owns,b.eta,b.einj,b.rep⟩) hq hpl hT (hvc.symm ▸ h)
 intro H M vs S ra
 refine (q H M vs ⟨S.wf,S.ro,S.Mlt,S.globs⟩ ra).mono fun v H' hA=>?_
 obtain ⟨w',b⟩:=hA
 exact ⟨w',b.keeps,b.wf,b.g,b.M,b.Mlt,b.ce,b.n,b.owns,b.eta,b.einj,b.rep⟩
def q17:PV K->Bool
 | .int .. | .lit _ | .str _ | .nils | .nilp | .nilf | .nili=>true
 | .sb 0 _ _ _ _=>true
 | .list _ _ none=>true
 | .func _ [] []=>true
 | _=>false
def q82:PV K->Bool
 | .agg ps=>ps.all q17
 | p=>q17 p
theorem qzz {p:PV K} (h:q17 p=true):Plain p:=by
 unfold q17 at h
 split at h<;>first | (cases h;done) | constructor
theorem zes {p:PV K} (h:q82 p=true):Plain p:=by
 unfold q82 at h
 split at h
 .exact .agg fun p hp=>qzz (List.all_eq_true.1 h p hp)
 .exact qzz h
theorem qj {ps:List (PV K)} (h:ps.all q82=true):∀ p ∈ ps,Plain p:=fun p hp=>zes (List.all_eq_true.1 h p hp)
def qtn:PV K->Bool
 | .int .. | .lit _ | .str _=>true
 | .sb 0 _ _ _ _=>true
 | .list _ _ none=>true
 | .list _ _ (some (_,0))=>true
 | _=>false
def q1p:PV K->Bool
 | .agg ps=>ps.all qtn
 | p=>qtn p
def zni:PV K->Bool
 | .tuple l=>l.all q1p
 | p=>q1p p
theorem qww {p:PV K} (h:qtn p=true):Simple p:=by
 unfold qtn at h
 split at h<;>first | (cases h;done) | constructor
theorem qza {p:PV K} (h:q1p p=true):Form1 p:=by
 unfold q1p at h
 split at h
 .exact .agg fun p hp=>qww (List.all_eq_true.1 h p hp)
 .exact .one (qww h)
theorem qx {p:PV K} (h:zni p=true):Form p:=by
 unfold zni at h
 split at h
 .exact .tuple fun p hp=>qza (List.all_eq_true.1 h p hp)
 .exact .one (qza h)
def qhm (k:IntKind):PV K->Option Int
 | .int k' _ n=>if k=k' then some n else none
 | _=>none
def zhe:PV K->Option Bool
 | .lit b=>some b
 | .sb _ _ b _ _=>some b
 | _=>none
def zo2:PV K->Option (List UInt8)
 | .str s=>some s
 | _=>none
variable {w:Wd}
theorem ja {k:IntKind} {p:PV K} {n:Int} {v:V} (h:qhm k p=some n) (r:Rep X sz w p v):Rep X sz w (.int k none n) v:=by
 unfold qhm at h
 split at h
 .split at h
  .rename_i hk;subst hk;cases h;cases r;exact .int fun m hm=>by cases hm
  .cases h
 .cases h
theorem qvr {p:PV K} {b:Bool} {v:V} (h:zhe p=some b) (r:Rep X sz w p v):Rep X sz w (.sb 0 false b (b=true) (b=false)) v:=by
 unfold zhe at h
 split at h
 .cases h;cases r;exact .sb .rfl .rfl fun h0=>absurd rfl h0
 .cases h;cases r;exact .sb .rfl .rfl fun h0=>absurd rfl h0
 .cases h
theorem zhf {p:PV K} {s:List UInt8} {v:V} (h:zo2 p=some s) (r:Rep X sz w p v):Rep X sz w (.str s) v:=by
 unfold zo2 at h
 split at h
 .cases h;exact r
 .cases h
theorem kp {p q:PV K} {ps qs:List (PV K)} {vs:List V} (h:∀ v,Rep X sz w p v->Rep X sz w q v) (hl:∀ us,qu X sz w ps us->qu X sz w qs us) (r:qu X sz w (p::ps) vs):qu X sz w (q::qs) vs:=by
 obtain ⟨v,vs',rfl,r1,r2⟩:=r.kc
 exact .cons (h v r1) (hl vs' r2)
end
end Go.E3
/- E3: FUNCTIONS WITHOUT A BODY as contracts. -/
namespace Go.E3
open Go Go.E2
variable {K:Nat->Type}
section
variable {X:Codecs K} {sz:Nat->Nat} {C:ZC K}
theorem zg9 (ok2:CfgOk2 X C) {f:Nat} {r:PV K} {v:V} (hp:Plain r) (hr:qa4 r.flat=[]) (h:∀ H,H.zb=C.ng->(∀ gn o,C.gobj gn=some o->H.get gn=some o/\gn<H.next)->qcr C.E (.func f) [] H fun u H'=>u=v/\H'=H) (hv:∀ H M,Rep X sz (wd0 H M C.codec) r v):kx X sz C f [] r:=by
 intro H M vs S ra
 have:=ra.km;subst this
 refine (h H S.ro.2.1 S.ro.2.2).mono fun u H' hA=>?_
 obtain ⟨rfl,rfl⟩:=hA
 let w':Wd:={wd0 H' M C.codec with owns:=fun _=>some 0}
 have rv':Rep X sz w' r u:=Rep.plain (w:=wd0 H' M C.codec) (w':=w') ok2.plain rfl (fun _ _ _ h=>h) (hv H' M) hp
 refine ⟨w',?_⟩
 refine ⟨.refl H',S.wf,rfl,fun n _=>.rfl,S.Mlt,rfl,?_,fun _=>rfl,fun i nm he=>(by cases he),fun i j nm he=>(by cases he),rv'⟩
 rw [hr]
 rfl
end
end Go.E3
/- E3: ARGUMENTS THAT LIE IN MEMORY: slices whose elements are numbers, conditions, texts, structs of such. -/
namespace Go.E3
open Go Go.E2
variable {K:Nat->Type}
def qd6:Value->V
 | .int k n=>.int k n
 | .bool b=>.bool b
 | .string s=>.str s.data.toList
 | _=>.tuple [.slice 0 0 0 0 0 none]
theorem zgj (G:qh) (W:World) (x:Value):isHole (qd6 x)=true∨Go.E2.Rel G W (qd6 x) x:=by
 cases x with
 | int k n=>right;simp [qd6,Go.E2.Rel]
 | bool b=>right;simp [qd6,Go.E2.Rel]
 | string s=>right;simp [qd6,Go.E2.Rel]
 | _=>exact .inl rfl
theorem q53 (G:qh) (W:World):∀ l:List Value,kg G W (l.map qd6) l
 | []=>by simp [kg]
 | x::l=>by
  simp only [List.map_cons,kg]
  exact ⟨x,l,rfl,zgj G W x,q53 G W l⟩
def zmf (W:World) (b:Nat):Option (Nat×O):=
 match W.heap[b]? with
 | some (.cells arr e fz)=>some (b,.row (arr.toList.map qd6) e 0 0 fz.2 true)
 | _=>none
def zh8 (W:World):List (Nat×O):=(List.range W.heap.size).filterMap (zmf W)
theorem zek {W:World} {b:Nat} {x:Nat×O} (h:zmf W b=some x):∃ arr e fz,W.heap[b]? = some (.cells arr e fz)/\x=(b,.row (arr.toList.map qd6) e 0 0 fz.2 true):=by
 unfold zmf at h
 split at h
 .rename_i arr e fz hb
  exact ⟨arr,e,fz,hb,(Option.some.inj h).symm⟩
 .cases h
theorem qzr {W:World} {b:Nat} {o:O} (h:(b,o) ∈ zh8 W):∃ arr e fz,W.heap[b]? = some (.cells arr e fz)/\o=.row (arr.toList.map qd6) e 0 0 fz.2 true:=by
 obtain ⟨b',_,h2⟩:=List.mem_filterMap.1 h
 obtain ⟨arr,e,fz,h3,h4⟩:=zek h2
 cases h4
 exact ⟨arr,e,fz,h3,rfl⟩
def qd5 (W:World) (ng:Nat):Heap:={qa0:=qds (zh8 W),next:=W.heap.size,ro:=W.heap.size,zb:=ng}
theorem qjw {W:World} {ng b:Nat} {arr:Array Value} {e:TypeId} {fz:Nat×Nat} (h:W.heap[b]? = some (.cells arr e fz)):(qd5 W ng).get b=some (.row (arr.toList.map qd6) e 0 0 fz.2 true):=by
 have hm:(b,O.row (arr.toList.map qd6) e 0 0 fz.2 true) ∈ zh8 W:=by
  refine List.mem_filterMap.2 ⟨b,List.mem_range.2 (qdm h),?_⟩
  unfold zmf
  rw [h]
 obtain ⟨o,ho⟩:=qii hm
 obtain ⟨arr',e',fz',h',rfl⟩:=qzr (qay _ _ _ ho)
 rw [h] at h'
 cases h'
 exact ho
theorem qn4 {W:World} {ng b:Nat} {o:O} (h:(qd5 W ng).get b=some o):∃ arr e fz,W.heap[b]? = some (.cells arr e fz)/\o=.row (arr.toList.map qd6) e 0 0 fz.2 true:=
 qzr (qay _ _ _ h)
def qbz (W:World):qh:=fun nm g=>if g=0 then (match W.heap[nm]? with
 | some (.cells arr _ _)=>some (nm,0,arr.size)
 | _=>none) else none
theorem qaq {W:World} {nm g:Nat} {x:Nat×Nat×Nat} (h:qbz W nm g=some x):g=0/\∃ arr e fz,W.heap[nm]? = some (.cells arr e fz)/\x=(nm,0,arr.size):=by
 unfold qbz at h
 split at h
 .rename_i hg
  split at h
  .rename_i arr e fz hb
   exact ⟨hg,arr,e,fz,hb,(Option.some.inj h).symm⟩
  .cases h
 .cases h
theorem qf6 {W:World} {b:Nat} {arr:Array Value} {e:TypeId} {fz:Nat×Nat} (h:W.heap[b]? = some (.cells arr e fz)):qbz W b 0=some (b,0,arr.size):=by
 unfold qbz
 rw [zT rfl,h]
theorem zsx {W:World} {ng:Nat} (hng:ng<=W.heap.size):Sim (qd5 W ng) (qbz W) W:=by
 refine ⟨fun nm g b sh n h=>?_,fun nm g b sh n nm' g' sh' n' h h'=>?_,fun nm o _ ho=>?_,zN _,hng,fun g o _ ho=>?_⟩
 .obtain ⟨_,arr,e,fz,hb,hx⟩:=qaq h
  cases hx
  exact ⟨qdm hb,qdm hb⟩
 .obtain ⟨_,_,_,_,_,hx⟩:=qaq h
  obtain ⟨_,_,_,_,_,hx'⟩:=qaq h'
  cases hx
  cases hx'
  exact ⟨rfl,rfl⟩
 .obtain ⟨arr,e,fz,hb,rfl⟩:=qn4 ho
  refine ⟨zN _,fun _=>rfl,fun g b sh n hg=>?_⟩
  obtain ⟨rfl,arr',e',fz',hb',hx⟩:=qaq hg
  rw [hb] at hb'
  cases hb'
  cases hx
  refine ⟨zN _,Nat.zero_le _,by simp,fun _=>by simp,fun _=>rfl,fun _=>⟨arr,fz,hb,by simp,?_,fun _ i h1 h2=>by omega,fun _=>by simp⟩⟩
  rw [List.drop_zero,Nat.sub_zero,List.take_of_length_le (by simp),List.take_of_length_le (by simp)]
  exact q53 _ _ _
 .obtain ⟨arr,e,fz,hb,_⟩:=qn4 ho
  exact ⟨_,qf6 hb⟩
theorem zdu {W w':World} {G':qh} (h:Ext W.heap.size (qbz W) W G' w'):∀ b,b<W.heap.size->w'.heap[b]? = W.heap[b]?:=by
 intro b hb
 cases hc:qbz W b 0 with
 | some x=>
  obtain ⟨_,arr,e,fz,_,rfl⟩:=qaq hc
  exact h.ro b 0 b 0 _ hb hc
 | none=>
  refine (h.frg b hb fun nm g sh n hg=>?_).1
  obtain ⟨rfl,arr,e,fz,hb',hx⟩:=qaq hg
  cases hx
  rw [qf6 hb'] at hc
  cases hc
inductive Leaf4 where
 | int (k:IntKind)
 | bool
 | str
 | list (c:Nat)
def Leaf4.flat:Leaf4->Bool
 | .list _=>false
 | _=>true
def qw3 (P:Program) (g:TypeId->Option (List Leaf4)):List Field->Nat->Option (List Leaf4)
 | [],_=>some []
 | f::fs,off=>(g f.type).bind fun l=>bif Nat.beq f.offset off&&Nat.beq l.length (P.cellsOf f.type) then (qw3 P g fs (off+l.length)).map fun r=>l++r else none
def qmh (P:Program) (cd:TypeId->Option Nat):Nat->TypeId->Option (List Leaf4)
 | 0,_=>none
 | d+1,t=>match P.underlying t with
  | some (.int k)=>some [.int k]
  | some .bool=>some [.bool]
  | some .string=>some [.str]
  | some (.slice e)=>(cd e).map fun c=>[.list c]
  | some (.struct fs)=>(qw3 P (qmh P cd d) fs.toList 0).bind fun l=>bif Nat.beq l.length (P.cellsOf t) then some l else none
  | _=>none
section
variable {Hd:Type} {enc:TypeId×Value->Hd} {P:Program} {W:World} {cd:TypeId->Option Nat}
def qac (enc:TypeId×Value->Hd) (P:Program) (W:World) (cd:TypeId->Option Nat):Leaf4->Value->Prop
 | .int k,x=>∃ n,x=.int k n/\(Lit.int k n).wf=true
 | .bool,x=>∃ b,x=.bool b
 | .str,x=>∃ s,x=.string s/\s.size<=maxLen
 | .list c,x=>x=.slice none 0 0∨∃ e a len cap,cd e=some c/\x=.slice (some a) len cap/\len<=cap/\cap<=maxLen/\
   ∀ i,i<cap->∃ cs m r,W.cells? 0 (a.add (i * P.cellsOf e)) (P.cellsOf e)=some cs/\DataW.trod enc P W 0 (fun _=>true) true m e cs=some r
theorem qs4 {Q:Leaf4->Value->Prop} {cs:List Value} {g:TypeId->Option (List Leaf4)}:∀ {fs:List Field} {off:Nat} {ls:List Leaf4},qw3 P g fs off=some ls->
  (∀ f ∈ fs,∀ l,g f.type=some l->l.length=P.cellsOf f.type->∀ (i:Nat) leaf x,l[i]? = some leaf->((cs.drop f.offset).take (P.cellsOf f.type))[i]? = some x->Q leaf x)->
  ∀ (i:Nat) leaf x,ls[i]? = some leaf->cs[off+i]? = some x->Q leaf x
 | [],off,ls,h,_,i,leaf,x,hl,_=>by
  simp only [qw3,zS] at h
  subst h
  simp at hl
 | f::fs,off,ls,h,hR,i,leaf,x,hl,hx=>by
  simp only [qw3] at h
  obtain ⟨l,h1,h2⟩:=zI.1 h
  rcases z9 h2 with ⟨_,h3⟩ | ⟨h3,h4⟩
  .cases h3
  .simp only [zA,Nat.beq_eq] at h3
   obtain ⟨rfl,hlen⟩:=h3
   obtain ⟨r,h5,rfl⟩:=zM.1 h4
   by_cases hi:i<l.length
   .rw [List.getElem?_append_left hi] at hl
    refine hR f zC l h1 hlen i leaf x hl ?_
    rw [List.getElem?_take_of_lt (by omega),List.getElem?_drop]
    exact hx
   .rw [List.getElem?_append_right (by omega)] at hl
    refine qs4 h5 (fun f' hf'=>hR f' (zG _ hf')) (i-l.length) leaf x hl ?_
    rw [show f.offset+l.length+(i-l.length)=f.offset+i by omega]
    exact hx
theorem qgd:∀ (d:Nat) {n:Nat} {t:TypeId} {cs:List Value} {r:DataW Hd×List MemPlace} {ls:List Leaf4},DataW.trod enc P W 0 (fun _=>true) true n t cs=some r->qmh P cd d t=some ls->
  cs.length=ls.length/\∀ (i:Nat) leaf x,ls[i]? = some leaf->cs[i]? = some x->qac enc P W cd leaf x
 | 0,n,t,cs,r,ls,h,ht=>by cases ht
 | d+1,n,t,cs,r,ls,h,ht=>by
  have one:∀ {leaf:Leaf4} {x:Value},qac enc P W cd leaf x->[x].length=[leaf].length/\∀ (i:Nat) l y,[leaf][i]? = some l->[x][i]? = some y->qac enc P W cd l y:=by
   intro leaf x hr
   refine ⟨rfl,fun i l y h1 h2=>?_⟩
   cases i with
   | zero=>simp only [List.getElem?_cons_zero,zS] at h1 h2;subst h1;subst h2;exact hr
   | succ i=>simp at h1
  simp only [qmh] at ht
  split at ht
  .rename_i k hu
   cases ht
   obtain ⟨m,rfl,_,hw⟩:=DataW.trod_int hu h
   exact one ⟨m,rfl,hw⟩
  .rename_i hu
   cases ht
   obtain ⟨b,rfl,_⟩:=DataW.trod_bool hu h
   exact one ⟨b,rfl⟩
  .rename_i hu
   cases ht
   obtain ⟨s,rfl,_,hs⟩:=DataW.trod_string hu h
   exact one ⟨s,rfl,hs⟩
  .rename_i e hu
   obtain ⟨c,hc,rfl⟩:=zM.1 ht
   rcases DataW.trod_slice hu h with ⟨rfl,_⟩ | ⟨a,len,cap,elems,rest,m,_,rfl,_,_,hl,hm,hel,he1,he2,_⟩
   .exact one (.inl rfl)
   .refine one (.inr ⟨e,a,len,cap,hc,rfl,hl,hm,fun i hi=>?_⟩)
    obtain ⟨hr1,hr2⟩:=he2 rfl
    by_cases hil:i<len
    .have:=he1 i hil
     rw [List.getElem?_eq_getElem (by omega)] at this
     obtain ⟨cs',h1,h2⟩:=zI.1 this
     exact ⟨cs',m,_,h1,h2⟩
    .have:=hr2 (i-len) (by omega)
     rw [List.getElem?_eq_getElem (by omega),show len+(i-len)=i by omega] at this
     obtain ⟨cs',h1,h2⟩:=zI.1 this
     exact ⟨cs',m,_,h1,h2⟩
  .rename_i fs hu
   obtain ⟨l,h1,h2⟩:=zI.1 ht
   rcases z9 h2 with ⟨_,h3⟩ | ⟨h3,h4⟩
   .cases h3
   .cases h4
    have hlen:=zE h3
    obtain ⟨xs,m,_,_,hl,hxs,hf⟩:=DataW.trod_struct hu h
    refine ⟨by omega,fun i leaf x hi hx=>?_⟩
    refine qs4 (Q:=qac enc P W cd) (off:=0) h1 (fun f hfm l' hg hgl j lf y hj hy=>?_) i leaf x hi (by simpa using hx)
    obtain ⟨q,hq,rfl⟩:=List.mem_iff_getElem.1 hfm
    have h5:=hf q fs.toList[q] (by simp at hq ⊢)
    rw [List.getElem?_eq_getElem (by simp at hq;omega)] at h5
    exact (qgd d h5 hg).2 j lf y hj hy
  .cases ht
def qlc (good:∀ c,K c->Prop):Leaf4->PV K->Prop
 | .int k,p=>∃ n,p=.int k none n/\k.min<=n/\n<=k.max
 | .bool,p=>∃ b,p=.sb 0 false b (b=true) (b=false)
 | .str,p=>∃ s:List UInt8,p=.str s/\s.length<=maxLen
 | .list c,p=>∃ l:List (K c),p=.list c l none/\l.length<=maxLen/\∀ x ∈ l,good c x
def qe8 (good:∀ c,K c->Prop):List Leaf4->List (PV K)->Prop
 | [],ps=>ps=[]
 | l::ls,ps=>∃ p qs,ps=p::qs/\qlc good l p/\qe8 good ls qs
variable {good:∀ c,K c->Prop}
variable {X:Codecs K} {sz:Nat->Nat} {w:Wd}
theorem qmq {leaf:Leaf4} {x:Value} (hf:leaf.flat=true) (h:qac enc P W cd leaf x):∃ p:PV K,qlc good leaf p/\Rep X sz w p (qd6 x):=by
 cases leaf with
 | int k=>
  obtain ⟨n,rfl,hw⟩:=h
  simp only [Lit.wf,zA,decide_eq_true_eq] at hw
  exact ⟨_,⟨n,rfl,hw⟩,.int fun m hm=>by cases hm⟩
 | bool=>
  obtain ⟨b,rfl⟩:=h
  exact ⟨_,⟨b,rfl⟩,.sb .rfl .rfl fun h0=>absurd rfl h0⟩
 | str=>
  obtain ⟨s,rfl,hs⟩:=h
  exact ⟨_,⟨s.data.toList,rfl,by simpa using hs⟩,.str⟩
 | list c=>cases hf
theorem qsn:∀ {ls:List Leaf4} {cs:List Value},ls.all Leaf4.flat=true->cs.length=ls.length->(∀ (i:Nat) leaf x,ls[i]? = some leaf->cs[i]? = some x->qac enc P W cd leaf x)->
  ∃ ps:List (PV K),qe8 good ls ps/\qu X sz w ps (cs.map qd6)
 | [],[],_,_,_=>⟨[],rfl,.nil⟩
 | [],_::_,_,h,_=>by simp at h
 | _::_,[],_,h,_=>by simp at h
 | l::ls,x::cs,hf,hl,hr=>by
  simp only [List.all_cons,zA] at hf
  obtain ⟨p,h1,h2⟩:=qmq (X:=X) (sz:=sz) (w:=w) hf.1 (hr 0 l x rfl rfl)
  obtain ⟨ps,h3,h4⟩:=qsn (cs:=cs) hf.2 (by simpa using hl) fun i leaf y h5 h6=>hr (i+1) leaf y (by simpa using h5) (by simpa using h6)
  exact ⟨p::ps,⟨p,ps,rfl,h1,h3⟩,.cons h2 h4⟩
theorem qlz {α:Type} {Q:Nat->α->Prop}:∀ {n:Nat},(∀ i,i<n->∃ x,Q i x)->∃ l:List α,l.length=n/\∀ (i:Nat) (h:i<l.length),Q i (l[i]'h)
 | 0,_=>⟨[],rfl,fun i h=>by simp at h⟩
 | n+1,h=>by
  obtain ⟨l,h1,h2⟩:=qlz (n:=n) fun i hi=>h i (by omega)
  obtain ⟨x,hx⟩:=h n (by omega)
  refine ⟨l++[x],by simp [h1],fun i hi=>?_⟩
  by_cases hin:i<l.length
  .rw [List.getElem_append_left hin];exact h2 i hin
  .have:i=n:=by simp at hi;omega
   subst this
   rw [List.getElem_append_right (by omega)]
   simpa [h1] using hx
theorem zew {f:TypeId->Bool}:∀ {d:Nat} {e:TypeId} {count off n:Nat},rowAt P f d e count off n=true->off<=count * P.cellsOf e
 | 0,_,_,_,_,h=>by simp [rowAt] at h
 | d+1,e,count,off,n,h=>by
  unfold rowAt at h
  by_cases hs:P.cellsOf e=0
  .simp [hs] at h
  .simp only [hs,if_false,Bool.or_eq_true,zA,beq_iff_eq,decide_eq_true_eq] at h
   have hd:=Nat.div_add_mod off (P.cellsOf e)
   have hm:=Nat.mod_lt off (Nat.pos_of_ne_zero hs)
   rcases h with ⟨⟨h1,h2⟩,_⟩ | ⟨h1,_⟩
   .have:=zU (P.cellsOf e) (show off / P.cellsOf e<=count by omega)
    rw [Nat.mul_comm] at hd
    omega
   .have:=zU (P.cellsOf e) (show off / P.cellsOf e+1<=count by omega)
    rw [Nat.add_mul,Nat.one_mul] at this
    rw [Nat.mul_comm] at hd
    omega
theorem qv5:∀ {d:Nat} {e:TypeId} {count off:Nat} {u:TypeId} {n:Nat},liesAt P d e count off u n=true->off<=count * P.cellsOf e
 | 0,_,_,_,_,_,h=>by simp [liesAt] at h
 | d+1,e,count,off,u,n,h=>by
  unfold liesAt at h
  simp only [Bool.or_eq_true] at h
  rcases h with h | h
  .exact zew h
  .split at h
   .exact qv5 h
   .cases h
theorem q6d {base:Nat} {u:TypeId} {a:Addr} {len cap:Nat} (h:Cell.okWide P W .any base u (.slice (some a) len cap)) :
  a.spot=none/\∃ arr e fz,W.heap[a.block]? = some (.cells arr e fz)/\a.off<=arr.size:=by
 have h':Cell.ok P W .any base u (.slice (some a) len cap):=by
  unfold Cell.okWide at h
  split at h<;>first | exact h | (rename_i hx;cases hx)
 unfold Cell.ok at h'
 split at h'<;>try (first | exact h'.elim | (rename_i hx;cases hx;done))
 rename_i e a' len' cap' _ hx
 cases hx
 obtain ⟨_,_,_,h1,row,cells,h2,h3⟩:=h'
 refine ⟨h1,?_⟩
 simp only [World.shape?] at h2
 split at h2
 .rename_i arr el fz hb
  cases h2
  refine ⟨arr,_,fz,hb,zR (qv5 h3) ?_⟩
  exact Nat.div_mul_le_self _ _
 .cases h2
structure ArgOk (good:∀ c,K c->Prop) (X:Codecs K) (sz:Nat->Nat) (P:Program) (cd:TypeId->Option Nat) (depth:Nat):Prop where
 elem:∀ e c,cd e=some c->∃ ls,qmh P cd depth e=some ls/\ls.all Leaf4.flat=true/\ls.length=sz c/\P.cellsOf e=sz c/\0<sz c/\∀ ps:List (PV K),qe8 good ls ps->∃ pre x,X.pack c ps=some (pre,x)/\pre/\good c x
theorem zef {C:ZC K} (ok:CfgOk X sz C) {depth ng:Nat} (ao:ArgOk good X sz P cd depth) {base:Nat} {u:TypeId} {c:Nat} {x:Value} {M:Nat->Prop} (hM:∀ n,¬ M n) (hc:Cell.okWide P W .any base u x) (h:qac enc P W cd (.list c) x) :
  ∃ (p:PV K) (v:V),qlc good (.list c) p/\Rep X sz (wd0 (qd5 W ng) M C.codec) p v/\Go.E2.Rel (qbz W) W v x:=by
 rcases h with rfl | ⟨e,a,len,cap,he,rfl,hl,hcap,hr⟩
 .exact ⟨.list c [] none,.nils,⟨[],rfl,Nat.zero_le _,fun x hx=>by cases hx⟩,.nlist trivial,by simp [Go.E2.Rel]⟩
 .obtain ⟨hsp,arr,el,fz,hb,hoff⟩:=q6d hc
  obtain ⟨b,off,spot⟩:=a
  simp only at hsp hb hoff
  subst hsp
  obtain ⟨ls,h1,h2,h3,h4,h5,h6⟩:=ao.elem e c he
  rw [h4] at hr
  have hcell:∀ i,i<cap->∃ cs:List Value,cs.length=sz c/\(∀ j,j<sz c->arr[off+i * sz c+j]? = cs[j]?)/\∃ y:K c,good c y/\qu X sz (wd0 (qd5 W ng) M C.codec) (X.cells c y) (cs.map qd6):=by
   intro i hi
   obtain ⟨cs,m,r,h7,h8⟩:=hr i hi
   obtain ⟨_,h9,h10⟩:=World.cells?_some h7
   obtain ⟨h11,h12⟩:=qgd depth h8 h1
   obtain ⟨ps,h13,h14⟩:=qsn (X:=X) (sz:=sz) (w:=wd0 (qd5 W ng) M C.codec) h2 h11 h12
   obtain ⟨pre,y,h15,h16,h17⟩:=h6 ps h13
   refine ⟨cs,h9,fun j hj=>?_,y,h17,ok.pack c ps pre y h15 h16 _ _ h14⟩
   have hadd:((⟨b,off,none⟩:Addr).add (i * sz c)).add j=⟨b,off+i * sz c+j,none⟩:=by
    unfold Addr.add
    by_cases h0:i * sz c=0
    .rw [zT h0,h0]
     by_cases hj0:j=0
     .rw [zT hj0,hj0];simp
     .rw [zF hj0];simp
    .rw [zF h0]
     by_cases hj0:j=0
     .rw [zT hj0,hj0];simp
     .rw [zF hj0]
   have:=h10 j hj
   rw [hadd] at this
   simp only [World.cell?,hb] at this
   simpa using this
  have hsz:off+cap * sz c<=arr.size:=by
   cases cap with
   | zero=>simpa using hoff
   | succ q=>
    obtain ⟨cs,g1,g2,_⟩:=hcell q (Nat.lt_succ_self q)
    have:=g2 (sz c-1) (by omega)
    rw [List.getElem?_eq_getElem (by omega)] at this
    have:=(Array.getElem?_eq_some_iff.1 this).1
    rw [Nat.add_mul,Nat.one_mul]
    omega
  have hlm:len * sz c<=cap * sz c:=zU _ hl
  obtain ⟨l,g1,g2⟩:=qlz (Q:=fun i (y:K c)=>∃ cs:List Value,cs.length=sz c/\(∀ j,j<sz c->arr[off+i * sz c+j]? = cs[j]?)/\good c y/\qu X sz (wd0 (qd5 W ng) M C.codec) (X.cells c y) (cs.map qd6)) (n:=len) fun i hi=>by
   obtain ⟨cs,q1,q2,y,q4,q3⟩:=hcell i (by omega)
   exact ⟨y,cs,q1,q2,q4,q3⟩
  refine ⟨.list c l none,.slice b 0 off len (sz c) (some cap),⟨l,rfl,by omega,fun y hy=>?_⟩,?_,?_⟩
  .obtain ⟨i,hi,rfl⟩:=List.mem_iff_getElem.1 hy
   obtain ⟨cs,q1,q2,q4,q3⟩:=g2 i hi
   exact q4
  .refine .list (qjw hb) (zN _) (hM b) g1.symm (by simp;omega) ⟨h5,.inl rfl⟩ (fun k hk=>by cases hk;exact hl) (fun i hi j p hp=>?_) trivial
   obtain ⟨cs,q1,q2,q4,q3⟩:=g2 i hi
   have hj:j<sz c:=by rw [<-ok.len c (l[i]'hi)];exact (List.getElem?_eq_some_iff.1 hp).1
   have:=q3.2 j p hp
   rw [List.getD_eq_getElem?_getD,List.getElem?_map] at this ⊢
   rw [Array.getElem?_toList,q2 j hj]
   exact this
  .simp only [Go.E2.Rel]
   exact ⟨b,0,arr.size,off,cap,el,arr.size,_,qf6 hb,rfl,.inr rfl,hl,Nat.zero_le _,by omega,.inl rfl,fun k hk=>by cases hk;exact ⟨rfl,hsz⟩,by simp only [World.shape?,hb],hsz⟩
theorem q42 {leaf:Leaf4} {x:Value} (hf:leaf.flat=true) (h:qac enc P W cd leaf x) (G:qh):Go.E2.Rel G W (qd6 x) x:=by
 cases leaf with
 | int k=>obtain ⟨n,rfl,_⟩:=h;simp [qd6,Go.E2.Rel]
 | bool=>obtain ⟨b,rfl⟩:=h;simp [qd6,Go.E2.Rel]
 | str=>obtain ⟨s,rfl,_⟩:=h;simp [qd6,Go.E2.Rel]
 | list c=>cases hf
theorem qzh {C:ZC K} (ok:CfgOk X sz C) {depth ng:Nat} (ao:ArgOk good X sz P cd depth) {base:Nat} {u:TypeId} {leaf:Leaf4} {x:Value} {M:Nat->Prop} (hM:∀ n,¬ M n) (hc:Cell.okWide P W .any base u x) (h:qac enc P W cd leaf x) :
  ∃ (p:PV K) (v:V),qlc good leaf p/\Rep X sz (wd0 (qd5 W ng) M C.codec) p v/\Go.E2.Rel (qbz W) W v x:=by
 cases hf:leaf.flat with
 | true=>
  obtain ⟨p,h1,h2⟩:=qmq (X:=X) (sz:=sz) (w:=wd0 (qd5 W ng) M C.codec) hf h
  exact ⟨p,qd6 x,h1,h2,q42 hf h _⟩
 | false=>
  cases leaf with
  | list c=>exact zef ok ao hM hc h
  | _=>cases hf
theorem qso {C:ZC K} (ok:CfgOk X sz C) {depth ng:Nat} (ao:ArgOk good X sz P cd depth) {base:Nat} {M:Nat->Prop} (hM:∀ n,¬ M n):∀ {ls:List Leaf4} {cs:List Value},cs.length=ls.length->
  (∀ (i:Nat) x,cs[i]? = some x->∃ u,Cell.okWide P W .any base u x)->(∀ (i:Nat) leaf x,ls[i]? = some leaf->cs[i]? = some x->qac enc P W cd leaf x)->
  ∃ (ps:List (PV K)) (vs:List V),qe8 good ls ps/\qu X sz (wd0 (qd5 W ng) M C.codec) ps vs/\Go.E2.qn (qbz W) W vs cs
 | [],[],_,_,_=>⟨[],[],rfl,.nil,by simp [Go.E2.qn]⟩
 | [],_::_,h,_,_=>by simp at h
 | _::_,[],h,_,_=>by simp at h
 | l::ls,x::cs,hl,hc,hr=>by
  obtain ⟨u,hu⟩:=hc 0 x rfl
  obtain ⟨p,v,h1,h2,h3⟩:=qzh (ng:=ng) ok ao hM hu (hr 0 l x rfl rfl)
  obtain ⟨ps,vs,h4,h5,h6⟩:=qso (ng:=ng) ok ao hM (cs:=cs) (ls:=ls) (by simpa using hl) (fun i y hy=>hc (i+1) y (by simpa using hy)) fun i leaf y h7 h8=>hr (i+1) leaf y (by simpa using h7) (by simpa using h8)
  exact ⟨p::ps,v::vs,⟨p,ps,rfl,h1,h4⟩,.cons h2 h5,Go.E2.qn.cons h3 h6⟩
theorem q9y {C:ZC K} (ok:CfgOk X sz C) {depth ng:Nat} (ao:ArgOk good X sz P cd depth) {base:Nat} {M:Nat->Prop} (hM:∀ n,¬ M n) {t:TypeId} {v:Value} {d:DataW Hd} {ps:List MemPlace} {leaf:Leaf4}
  (ht:(match P.underlying t with | some (.struct _) | some (.array _ _)=>false | _=>true)=true) (hl:qmh P cd depth t=some [leaf]) (hv:Value.okWide P W .any base t v) (hd:DataW.Trod enc P W 0 (fun _=>true) true t v d ps) :
  ∃ (p:PV K) (u:V),qlc good leaf p/\Rep X sz (wd0 (qd5 W ng) M C.codec) p u/\Go.E2.Rel (qbz W) W u v:=by
 obtain ⟨n,hn⟩:=hd
 obtain ⟨h1,h2⟩:=qgd depth hn hl
 have hcell:Cell.okWide P W .any base t v:=by
  unfold Value.okWide at hv
  split at hv
  .rename_i h;simp [h] at ht
  .rename_i h;simp [h] at ht
  .exact hv
 have hcs:v.cells.toList=[v]:=by
  cases v with
  | agg cs=>
   exfalso
   unfold Cell.okWide at hcell
   split at hcell<;>first | (rename_i hx;cases hx;done) | skip
   unfold Cell.ok at hcell
   split at hcell<;>first | (rename_i hx;cases hx;done) | exact hcell
  | _=>rfl
 exact qzh ok ao hM hcell (h2 0 leaf v rfl (by rw [hcs];rfl))
theorem q7w {C:ZC K} (ok:CfgOk X sz C) {depth ng:Nat} (ao:ArgOk good X sz P cd depth) {base:Nat} {M:Nat->Prop} (hM:∀ n,¬ M n) {t:TypeId} {v:Value} {d:DataW Hd} {ps:List MemPlace} {ls:List Leaf4} {fs:Array Field}
  (ht:P.underlying t=some (.struct fs)) (hl:qmh P cd depth t=some ls) (hv:Value.okWide P W .any base t v) (hd:DataW.Trod enc P W 0 (fun _=>true) true t v d ps) :
  ∃ (ps:List (PV K)) (u:V),qe8 good ls ps/\Rep X sz (wd0 (qd5 W ng) M C.codec) (.agg ps) u/\Go.E2.Rel (qbz W) W u v:=by
 obtain ⟨n,hn⟩:=hd
 obtain ⟨h1,h2⟩:=qgd depth hn hl
 unfold Value.okWide at hv
 rw [ht] at hv
 obtain ⟨cs,rfl,_,ts,_,_,hts⟩:=hv
 have hcs:(Value.agg cs).cells.toList=cs.toList:=rfl
 rw [hcs] at h1 h2
 obtain ⟨qs,vs,h3,h4,h5⟩:=qso (ng:=ng) ok ao hM h1 (fun i x hx=>by
  obtain ⟨u,_,hu⟩:=hts i x (by simpa using hx)
  exact ⟨u,hu⟩) h2
 exact ⟨qs,.agg vs,h3,.agg h4.1 h4.2,by simp only [Go.E2.Rel];exact ⟨cs,rfl,h5⟩⟩
theorem zav {p:MemPlace} (h:Go.Good W p):p.block<W.heap.size:=by
 cases p with
 | cell b off=>
  obtain ⟨v,hv,_⟩:=h
  simp only [World.cell?] at hv
  split at hv
  .rename_i hb;exact qdm hb
  .cases hv
 | map b=>
  obtain ⟨es,clock,hb⟩:=h
  exact qdm hb
theorem qoi {w':World} {t:TypeId} {v:Value} {d:DataW Hd} {ps:List MemPlace} (hlaid:laidOutB P=true) (hrec:P.readableRec t=true) (hrow:t<P.types.size) (h:DataW.Trod enc P W 0 (fun _=>true) true t v d ps) (hs:∀ b,b<W.heap.size->w'.heap[b]? = W.heap[b]?)
  (sp:Nat->Bool) (hsp:∀ b,b<W.heap.size->sp b=true):DataW.Trod enc P w' 0 sp true t v d ps:=by
 obtain ⟨n,hn⟩:=h
 have K:=kids_book hlaid hrec
 have hgood:=DataW.trod_good K (fun h=>by cases h) n t _ _ ⟨hrow,book_self t⟩ hn
 refine ⟨n,DataW.trod_stays K (book_sized hrec) (fun h=>by cases h) ⟨hrow,book_self t⟩ hn (fun p hp=>?_) (fun p hp=>hsp _ ?_)⟩
 .have hlt:p.block<W.heap.size:=zav (hgood p hp)
  cases p with
  | cell b off=>simp only [World.sameAt,World.cell?,hs b hlt]
  | map b=>exact hs b hlt
 .exact zav (hgood p hp)
end
end Go.E3
/- E3: (*strings.Builder).String, BY ITS TEXT: a check of the body, and what the body does. -/
namespace Go.E3
open Go Go.E2
section
variable {E:Env} {fn:FuncId} {round:Option Nat} {all:Array Oper} {b:Array Nat} {i:Nat} {l:List Oper} {done:List Done} {o:Oper} {fr:Fr} {H:Heap} {Q:Ex->Fr->Heap->Prop} {B:Nat}
end
section
variable {E:Env} {F tB tS tQ tI tU:Nat}
end
theorem qxx {P:Program} {Hd:Type} {enc:TypeId×Value->Hd} {g:Func} {s:Go.ChangeSpec} {apart fresh handsOn:Bool} {W w':World} {args:Array Value} {ds gs:List (DataW Hd)} {before:List MemPlace} {t:TypeId}
  (hW:DataW.Whole enc P g.params.toList s.vars apart W args.toList ds gs before) (hv:s.vars=[]) (ht:g.resultTypes = #[t]) (hu:P.underlying t=some .bool)
  (hfn:s.fn Hd ds = {results:=[.lit (.bool true)],args:=ds}) (hargs:∃ pa,DataW.TrodAll enc P w' 0 (fun b=>decide (b<W.heap.size)) true g.params.toList args.toList ds pa) (hk:∀ may,W.keptBut w' may) :
  s.post enc P g apart fresh handsOn false W args (.bool true) w':=by
 have hW':=hW
 obtain ⟨p,q,hA,hV,rfl,_,_⟩:=hW
 rw [hv] at hV
 obtain ⟨rfl,rfl⟩:=Go.ChangeShapes.trodVars_none hV
 obtain ⟨pa,hpa⟩:=hargs
 refine ⟨ds,[],p++[],[],pa,[],hW',?_,?_,?_,hk _,fun h=>by cases h⟩
 .rw [ht,zJ,hfn]
  exact Go.ChangeShapes.trodAll_mk1 (Go.RowKit.shut_bool hu true)
 .rw [zJ,hfn]
  exact hpa
 .rw [hv,zJ,hfn]
  rfl
end Go.E3
/- E3: A CLOSED CALL that looks at listed variables, as a contract. -/
namespace Go.E2
open Go
def Fact.qu1 (F:Fact):Bool:=
 F.args.isEmpty&&(F.pre.all fun x=>match assoc (F.pre.map fun x=>(x.1,x.1)) x.1,q2b (assoc (F.pre.map fun x=>(x.1,x.1))) x.2 with
  | some k,some o=>Nat.beq k x.1&&q4r o x.2
  | _,_=>false)&&ql8 (F.pre.map fun x=>(x.1,x.1))&&(F.pre.all fun x=>Nat.blt x.1 F.next)&&Nat.beq F.ro F.next&&qkd F.ret ((qfo (fun _=>none) F.ret).getD (.tuple [.nilp]))
theorem zm4 {F:Fact} {H:Heap} (hc:F.qu1=true) (hg:H.zb=F.zb) (ho:∀ x ∈ F.pre,H.get x.1=some x.2/\x.1<H.next):F.q6m [] H=some (.ret F.ret,H):=by
 simp only [Fact.qu1,zA] at hc
 obtain ⟨⟨⟨⟨⟨c1,c2⟩,c3⟩,c4⟩,c5⟩,c6⟩:=hc
 have ha:F.args=[]:=List.isEmpty_iff.1 c1
 have hfit:F.fits (F.pre.map fun x=>(x.1,x.1)) [] H=true:=by
  simp only [Fact.fits,zA]
  refine ⟨⟨⟨⟨?_,?_⟩,?_⟩,c3⟩,?_⟩
  .rw [ha];rfl
  .rw [hg];exact Nat.beq_refl _
  .unfold q1s
   rw [List.all_eq_true]
   intro x hx
   have:=List.all_eq_true.1 c2 x hx
   split at this
   .rename_i k o h1 h2
    simp only [zA] at this
    have hk:=zE this.1
    subst hk
    simp only [h1,h2,(ho x hx).1]
    exact this.2
   .cases this
  .rw [List.all_eq_true]
   intro x hx
   obtain ⟨y,hy,rfl⟩:=List.mem_map.1 hx
   have h1:=List.all_eq_true.1 c4 y hy
   have h2:Nat.blt y.1 H.next=true:=by rw [Nat.blt_eq];exact (ho y hy).2
   have h3:Nat.ble F.ro y.1=false:=by
    rw [<-Bool.not_eq_true,Nat.ble_eq,zE c5]
    rw [Nat.blt_eq] at h1
    omega
   simp only [h1,h2,h3,Nat.beq_refl,Bool.and_true,Bool.or_true,Bool.not_false,Bool.true_or]
 simp only [Fact.q6m,hfit,c5,c6,Bool.and_true,zO]
end Go.E2
namespace Go.E3
open Go Go.E2
theorem qne {α:Type}:∀ {l:List (Nat×α)},distinct (l.map (·.1))=true->∀ {x:Nat×α},x ∈ l->look l x.1=some x.2
 | [],_,x,hx=>by cases hx
 | y::l,h,x,hx=>by
  simp only [List.map_cons,distinct,zA,Bool.not_eq_true'] at h
  simp only [look,cond_eq_ite,Nat.beq_eq]
  rcases zD.1 hx with rfl | hx
  .rw [zT rfl]
  .rw [zF]
   .exact qne h.2 hx
   .intro he
    have h1:=h.1
    rw [<-Bool.not_eq_true,List.any_eq_true] at h1
    exact h1 ⟨x.1,List.mem_map.2 ⟨x,hx,rfl⟩,by rw [he];exact Nat.beq_refl _⟩
end Go.E3
/- E3: ARGUMENTS WHOSE ELEMENTS HOLD SLICES, to whatever depth. The element size of a slice that lies in a cell is told by a function F of the cells where it points. -/
namespace Go.E3
open Go Go.E2
variable {K:Nat->Type}
def qfu (W:World) (F:Array Value->Nat->Nat) (self:Nat):Value->V
 | .slice none len cap=>if len=0/\cap=0 then .nils else .tuple [.slice 0 0 0 0 0 none]
 | .slice (some a) len cap=>
  if cap=0 then (if len=0 then .slice self 0 0 0 1 (some 0) else .tuple [.slice 0 0 0 0 0 none])
  else match W.heap[a.block]? with
   | some (.cells arr _ _)=>if a.spot=none/\len<=cap/\a.off+cap * F arr a.off<=arr.size then .slice a.block 0 a.off len (F arr a.off) (some cap) else .tuple [.slice 0 0 0 0 0 none]
   | _=>.tuple [.slice 0 0 0 0 0 none]
 | x=>qd6 x
theorem zgi {W:World} {F:Array Value->Nat->Nat} {self:Nat} {arr:Array Value} {e:TypeId} {fz:Nat×Nat} (hb:W.heap[self]? = some (.cells arr e fz)) (x:Value):isHole (qfu W F self x)=true∨Go.E2.Rel (qbz W) W (qfu W F self x) x:=by
 cases x with
 | slice a len cap=>
  cases a with
  | none=>
   simp only [qfu]
   split
   .rename_i h
    obtain ⟨rfl,rfl⟩:=h
    right;simp [Go.E2.Rel]
   .exact .inl rfl
  | some a=>
   simp only [qfu]
   split
   .rename_i hc
    subst hc
    split
    .rename_i hl
     subst hl
     right
     simp only [Go.E2.Rel]
     exact ⟨self,0,arr.size,0,0,e,arr.size,a,qf6 hb,rfl,.inl rfl,zN _,zN _,by omega,.inr rfl,fun k hk=>by cases hk;exact ⟨rfl,by omega⟩,by simp only [World.shape?,hb],by omega⟩
    .exact .inl rfl
   .split
    .rename_i arr' e' fz' hb'
     split
     .rename_i h
      obtain ⟨h1,h2,h3⟩:=h
      right
      obtain ⟨b,off,spot⟩:=a
      simp only at h1 h3 hb'
      subst h1
      have hm:len * F arr' off<=cap * F arr' off:=zU _ h2
      simp only [Go.E2.Rel]
      exact ⟨b,0,arr'.size,off,cap,e',arr'.size,_,qf6 hb',rfl,.inr rfl,h2,Nat.zero_le _,by omega,.inl rfl,fun k hk=>by cases hk;exact ⟨rfl,h3⟩,by simp only [World.shape?,hb'],h3⟩
     .exact .inl rfl
    .exact .inl rfl
 | int k n=>right;simp [qfu,qd6,Go.E2.Rel]
 | bool b=>right;simp [qfu,qd6,Go.E2.Rel]
 | string s=>right;simp [qfu,qd6,Go.E2.Rel]
 | _=>exact .inl rfl
theorem qz2 {W:World} {F:Array Value->Nat->Nat} {self:Nat} {arr:Array Value} {e:TypeId} {fz:Nat×Nat} (hb:W.heap[self]? = some (.cells arr e fz)):∀ l:List Value,kg (qbz W) W (l.map (qfu W F self)) l
 | []=>by simp [kg]
 | x::l=>by
  simp only [List.map_cons,kg]
  exact ⟨x,l,rfl,zgi hb x,qz2 hb l⟩
def zme (W:World) (F:Array Value->Nat->Nat) (b:Nat):Option (Nat×O):=
 match W.heap[b]? with
 | some (.cells arr e fz)=>some (b,.row (arr.toList.map (qfu W F b)) e 0 0 fz.2 true)
 | _=>none
def zh7 (W:World) (F:Array Value->Nat->Nat):List (Nat×O):=(List.range W.heap.size).filterMap (zme W F)
theorem zej {W:World} {F:Array Value->Nat->Nat} {b:Nat} {x:Nat×O} (h:zme W F b=some x):∃ arr e fz,W.heap[b]? = some (.cells arr e fz)/\x=(b,.row (arr.toList.map (qfu W F b)) e 0 0 fz.2 true):=by
 unfold zme at h
 split at h
 .rename_i arr e fz hb
  exact ⟨arr,e,fz,hb,(Option.some.inj h).symm⟩
 .cases h
theorem qzq {W:World} {F:Array Value->Nat->Nat} {b:Nat} {o:O} (h:(b,o) ∈ zh7 W F):∃ arr e fz,W.heap[b]? = some (.cells arr e fz)/\o=.row (arr.toList.map (qfu W F b)) e 0 0 fz.2 true:=by
 obtain ⟨b',_,h2⟩:=List.mem_filterMap.1 h
 obtain ⟨arr,e,fz,h3,h4⟩:=zej h2
 cases h4
 exact ⟨arr,e,fz,h3,rfl⟩
def qi9 (W:World) (F:Array Value->Nat->Nat) (ng:Nat):Heap:={qa0:=qds (zh7 W F),next:=W.heap.size,ro:=W.heap.size,zb:=ng}
theorem qzf {W:World} {F:Array Value->Nat->Nat} {ng b:Nat} {arr:Array Value} {e:TypeId} {fz:Nat×Nat} (h:W.heap[b]? = some (.cells arr e fz)):(qi9 W F ng).get b=some (.row (arr.toList.map (qfu W F b)) e 0 0 fz.2 true):=by
 have hm:(b,O.row (arr.toList.map (qfu W F b)) e 0 0 fz.2 true) ∈ zh7 W F:=by
  refine List.mem_filterMap.2 ⟨b,List.mem_range.2 (qdm h),?_⟩
  unfold zme
  rw [h]
 obtain ⟨o,ho⟩:=qii hm
 obtain ⟨arr',e',fz',h',rfl⟩:=qzq (qay _ _ _ ho)
 rw [h] at h'
 cases h'
 exact ho
theorem qvx {W:World} {F:Array Value->Nat->Nat} {ng b:Nat} {o:O} (h:(qi9 W F ng).get b=some o):∃ arr e fz,W.heap[b]? = some (.cells arr e fz)/\o=.row (arr.toList.map (qfu W F b)) e 0 0 fz.2 true:=
 qzq (qay _ _ _ h)
theorem zsz {W:World} {F:Array Value->Nat->Nat} {ng:Nat} (hng:ng<=W.heap.size):Sim (qi9 W F ng) (qbz W) W:=by
 refine ⟨fun nm g b sh n h=>?_,fun nm g b sh n nm' g' sh' n' h h'=>?_,fun nm o _ ho=>?_,zN _,hng,fun g o _ ho=>?_⟩
 .obtain ⟨_,arr,e,fz,hb,hx⟩:=qaq h
  cases hx
  exact ⟨qdm hb,qdm hb⟩
 .obtain ⟨_,_,_,_,_,hx⟩:=qaq h
  obtain ⟨_,_,_,_,_,hx'⟩:=qaq h'
  cases hx
  cases hx'
  exact ⟨rfl,rfl⟩
 .obtain ⟨arr,e,fz,hb,rfl⟩:=qvx ho
  refine ⟨zN _,fun _=>rfl,fun g b sh n hg=>?_⟩
  obtain ⟨rfl,arr',e',fz',hb',hx⟩:=qaq hg
  rw [hb] at hb'
  cases hb'
  cases hx
  refine ⟨zN _,Nat.zero_le _,by simp,fun _=>by simp,fun _=>rfl,fun _=>⟨arr,fz,hb,by simp,?_,fun _ i h1 h2=>by omega,fun _=>by simp⟩⟩
  rw [List.drop_zero,Nat.sub_zero,List.take_of_length_le (by simp),List.take_of_length_le (by simp)]
  exact qz2 hb _
 .obtain ⟨arr,e,fz,hb,_⟩:=qvx ho
  exact ⟨_,qf6 hb⟩
def qmg:Value->Bool
 | .slice ..=>true
 | _=>false
section
variable {Hd:Type} {enc:TypeId×Value->Hd} {P:Program} {W:World} {F:Array Value->Nat->Nat} {cd:TypeId->Option Nat} {good:∀ c,K c->Prop} {X:Codecs K} {sz:Nat->Nat}
theorem zda {leaf:Leaf4} {x:Value} {self:Nat} (hf:leaf.flat=true) (h:qac enc P W cd leaf x):qfu W F self x=qd6 x:=by
 cases leaf with
 | int k=>obtain ⟨n,rfl,_⟩:=h;rfl
 | bool=>obtain ⟨b,rfl⟩:=h;rfl
 | str=>obtain ⟨s,rfl,_⟩:=h;rfl
 | list c=>cases hf
theorem qxr {leaf:Leaf4} {x:Value} (h:qac enc P W cd leaf x):qmg x = !leaf.flat:=by
 cases leaf with
 | int k=>obtain ⟨n,rfl,_⟩:=h;rfl
 | bool=>obtain ⟨b,rfl⟩:=h;rfl
 | str=>obtain ⟨s,rfl,_⟩:=h;rfl
 | list c=>rcases h with rfl | ⟨e,a,len,cap,_,rfl,_⟩<;>rfl
theorem q5i {self:Nat}:∀ {l:List Value},(l.all fun x=>!qmg x)=true->l.map (qfu W F self)=l.map qd6
 | [],_=>rfl
 | x::l,h=>by
  simp only [List.all_cons,zA] at h
  simp only [List.map_cons,q5i h.2]
  congr 1
  cases x<;>first | rfl | (simp [qmg] at h)
def q0p (sz:Nat->Nat) (P:Program) (F:Array Value->Nat->Nat) (cd:TypeId->Option Nat) (depth c:Nat):Prop:=
 ∀ e ls,cd e=some c->qmh P cd depth e=some ls->∀ (arr:Array Value) (off:Nat),(∀ (i:Nat) leaf,ls[i]? = some leaf->∃ x,arr[off+i]? = some x/\qmg x = !leaf.flat)->F arr off=sz c
def qlg (good:∀ c,K c->Prop) (X:Codecs K) (sz:Nat->Nat) (P:Program) (F:Array Value->Nat->Nat) (cd:TypeId->Option Nat) (depth:Nat):Nat->Nat->Prop
 | 0,_=>False
 | n+1,c=>∀ e,cd e=some c->∃ ls,qmh P cd depth e=some ls/\(∀ leaf ∈ ls,leaf.flat=true∨∃ c',leaf=.list c'/\qlg good X sz P F cd depth n c'/\q0p sz P F cd depth c')/\ls.length=sz c/\P.cellsOf e=sz c/\0<sz c/\
   ∀ ps:List (PV K),qe8 good ls ps->∃ pre x,X.pack c ps=some (pre,x)/\pre/\good c x
theorem add_add (b off i j:Nat):((⟨b,off,none⟩:Addr).add i).add j=⟨b,off+i+j,none⟩:=by
 unfold Addr.add
 by_cases h0:i=0
 .rw [zT h0,h0]
  by_cases hj0:j=0
  .rw [zT hj0,hj0];simp
  .rw [zF hj0];simp
 .rw [zF h0]
  by_cases hj0:j=0
  .rw [zT hj0,hj0];simp
  .rw [zF hj0]
theorem zez {a:Addr} {n:Nat} {cs:List Value} (hn:0<n) (h:W.cells? 0 (a.add (0 * n)) n=some cs):a.spot=none/\∃ arr e fz,W.heap[a.block]? = some (.cells arr e fz):=by
 obtain ⟨_,h9,h10⟩:=World.cells?_some h
 have h0:=h10 0 hn
 rw [Nat.zero_mul] at h0
 have ha:(a.add 0).add 0=a:=by simp [Addr.add]
 rw [ha,List.getElem?_eq_getElem (by omega)] at h0
 simp only [World.cell?] at h0
 split at h0
 .rename_i arr e fz hb
  split at h0
  .cases h0
  .rename_i hs
   exact ⟨by simpa using hs,arr,e,fz,hb⟩
 .cases h0
theorem qq4 {T:Nat->Prop} {w:Wd} {self:Nat} (hT:∀ c,T c->∀ x,qac enc P W cd (.list c) x->∃ p:PV K,qlc good (.list c) p/\Rep X sz w p (qfu W F self x)) :
  ∀ {ls:List Leaf4} {cs:List Value},(∀ leaf ∈ ls,leaf.flat=true∨∃ c,leaf=.list c/\T c)->cs.length=ls.length->
   (∀ (i:Nat) leaf x,ls[i]? = some leaf->cs[i]? = some x->qac enc P W cd leaf x)->
   ∃ ps:List (PV K),qe8 good ls ps/\qu X sz w ps (cs.map (qfu W F self))
 | [],[],_,_,_=>⟨[],rfl,.nil⟩
 | [],_::_,_,h,_=>by simp at h
 | _::_,[],_,h,_=>by simp at h
 | l::ls,x::cs,hf,hl,hr=>by
  obtain ⟨ps,h3,h4⟩:=qq4 hT (cs:=cs) (fun leaf hm=>hf leaf (zG _ hm)) (by simpa using hl) fun i leaf y h5 h6=>hr (i+1) leaf y (by simpa using h5) (by simpa using h6)
  have h0:=hr 0 l x rfl rfl
  obtain ⟨p,h1,h2⟩:∃ p:PV K,qlc good l p/\Rep X sz w p (qfu W F self x):=by
   rcases hf l zC with h | ⟨c,rfl,hc⟩
   .obtain ⟨p,h1,h2⟩:=qmq (good:=good) (X:=X) (sz:=sz) (w:=w) h h0
    exact ⟨p,h1,by rw [zda h h0];exact h2⟩
   .exact hT c hc x h0
  exact ⟨p::ps,⟨p,ps,rfl,h1,h3⟩,.cons h2 h4⟩
theorem qu8 {C:ZC K} (ok:CfgOk X sz C) {depth c b off cap:Nat} {arr:Array Value} {el e:TypeId} {fz:Nat×Nat} {w:Wd} {ls:List Leaf4} (hb:W.heap[b]? = some (.cells arr el fz)) (h1:qmh P cd depth e=some ls) (h3:ls.length=sz c)
  (hL:∀ cs:List Value,cs.length=ls.length->(∀ (i:Nat) leaf x,ls[i]? = some leaf->cs[i]? = some x->qac enc P W cd leaf x)->∃ ps:List (PV K),qe8 good ls ps/\qu X sz w ps (cs.map (qfu W F b)))
  (h6:∀ ps:List (PV K),qe8 good ls ps->∃ pre x,X.pack c ps=some (pre,x)/\pre/\good c x)
  (hr:∀ i,i<cap->∃ cs m r,W.cells? 0 ((⟨b,off,none⟩:Addr).add (i * sz c)) (sz c)=some cs/\DataW.trod enc P W 0 (fun _=>true) true m e cs=some r) :
  ∀ i,i<cap->∃ cs:List Value,cs.length=sz c/\(∀ j,j<sz c->arr[off+i * sz c+j]? = cs[j]?)/\(∀ (j:Nat) leaf,ls[j]? = some leaf->∃ x,arr[off+i * sz c+j]? = some x/\qmg x = !leaf.flat)/\
   ∃ y:K c,good c y/\qu X sz w (X.cells c y) (cs.map (qfu W F b)):=by
 intro i hi
 obtain ⟨cs,m,r,h7,h8⟩:=hr i hi
 obtain ⟨_,h9,h10⟩:=World.cells?_some h7
 obtain ⟨h11,h12⟩:=qgd depth h8 h1
 obtain ⟨ps,h13,h14⟩:=hL cs h11 h12
 obtain ⟨pre,y,h15,h16,h17⟩:=h6 ps h13
 have hcell:∀ j,j<sz c->arr[off+i * sz c+j]? = cs[j]?:=by
  intro j hj
  have:=h10 j hj
  rw [add_add] at this
  simp only [World.cell?,hb] at this
  simpa using this
 refine ⟨cs,h9,hcell,fun j leaf hl=>?_,y,h17,ok.pack c ps pre y h15 h16 _ _ h14⟩
 have hj:j<sz c:=by rw [<-h3];exact (List.getElem?_eq_some_iff.1 hl).1
 have hjc:j<cs.length:=by omega
 refine ⟨cs[j],by rw [hcell j hj,List.getElem?_eq_getElem hjc],qxr (h12 j leaf _ hl (List.getElem?_eq_getElem hjc))⟩
theorem zg4 {arr:Array Value} {off cap c:Nat} {Q:List Value->Nat->Prop} (h5:0<sz c) (hoff:cap=0->off<=arr.size) (hc:∀ i,i<cap->∃ cs:List Value,cs.length=sz c/\(∀ j,j<sz c->arr[off+i * sz c+j]? = cs[j]?)/\Q cs i):off+cap * sz c<=arr.size:=by
 cases cap with
 | zero=>simpa using hoff rfl
 | succ q=>
  obtain ⟨cs,g1,g2,_⟩:=hc q (Nat.lt_succ_self q)
  have:=g2 (sz c-1) (by omega)
  rw [List.getElem?_eq_getElem (by omega)] at this
  have:=(Array.getElem?_eq_some_iff.1 this).1
  rw [Nat.add_mul,Nat.one_mul]
  omega
theorem qnb {C:ZC K} (ok:CfgOk X sz C) {ng c b off len cap:Nat} {arr:Array Value} {el:TypeId} {fz:Nat×Nat} {M:Nat->Prop} {Q:List Value->Nat->Prop} (hM:∀ n,¬ M n) (hb:W.heap[b]? = some (.cells arr el fz)) (h5:0<sz c) (hl:len<=cap) (hcap:cap<=maxLen) (hsz:off+cap * sz c<=arr.size)
  (hcell:∀ i,i<cap->∃ cs:List Value,cs.length=sz c/\(∀ j,j<sz c->arr[off+i * sz c+j]? = cs[j]?)/\Q cs i/\∃ y:K c,good c y/\qu X sz (wd0 (qi9 W F ng) M C.codec) (X.cells c y) (cs.map (qfu W F b))) :
  ∃ p:PV K,qlc good (.list c) p/\Rep X sz (wd0 (qi9 W F ng) M C.codec) p (.slice b 0 off len (sz c) (some cap)):=by
 have hlm:len * sz c<=cap * sz c:=zU _ hl
 obtain ⟨l,g1,g2⟩:=qlz (Q:=fun i (y:K c)=>∃ cs:List Value,cs.length=sz c/\(∀ j,j<sz c->arr[off+i * sz c+j]? = cs[j]?)/\good c y/\qu X sz (wd0 (qi9 W F ng) M C.codec) (X.cells c y) (cs.map (qfu W F b))) (n:=len) fun i hi=>by
  obtain ⟨cs,q1,q2,_,y,q4,q3⟩:=hcell i (by omega)
  exact ⟨y,cs,q1,q2,q4,q3⟩
 refine ⟨.list c l none,⟨l,rfl,by omega,fun y hy=>?_⟩,?_⟩
 .obtain ⟨i,hi,rfl⟩:=List.mem_iff_getElem.1 hy
  obtain ⟨cs,q1,q2,q4,q3⟩:=g2 i hi
  exact q4
 .refine .list (qzf hb) (zN _) (hM b) g1.symm (by simp;omega) ⟨h5,.inl rfl⟩ (fun k hk=>by cases hk;exact hl) (fun i hi j p hp=>?_) trivial
  obtain ⟨cs,q1,q2,q4,q3⟩:=g2 i hi
  have hj:j<sz c:=by rw [<-ok.len c (l[i]'hi)];exact (List.getElem?_eq_some_iff.1 hp).1
  have:=q3.2 j p hp
  rw [List.getD_eq_getElem?_getD,List.getElem?_map] at this ⊢
  rw [Array.getElem?_toList,q2 j hj]
  exact this
theorem qv0 {C:ZC K} (ok:CfgOk X sz C) {depth ng:Nat} {M:Nat->Prop} (hM:∀ n,¬ M n):∀ (n:Nat) {c self:Nat},qlg good X sz P F cd depth n c->q0p sz P F cd depth c->∀ {arr0:Array Value} {e0:TypeId} {fz0:Nat×Nat},W.heap[self]? = some (.cells arr0 e0 fz0)->∀ {x:Value},
  qac enc P W cd (.list c) x->∃ p:PV K,qlc good (.list c) p/\Rep X sz (wd0 (qi9 W F ng) M C.codec) p (qfu W F self x)
 | 0,c,self,fo,_,_,_,_,_,_,_=>fo.elim
 | n+1,c,self,fo,hFk,arr0,e0,fz0,hself,x,h=>by
  rcases h with rfl | ⟨e,a,len,cap,he,rfl,hl,hcap,hr⟩
  .exact ⟨.list c [] none,⟨[],rfl,Nat.zero_le _,fun x hx=>by cases hx⟩,.nlist trivial⟩
  .obtain ⟨ls,h1,h2,h3,h4,h5,h6⟩:=fo e he
   rw [h4] at hr
   by_cases hc0:cap=0
   .subst hc0
    obtain rfl:len=0:=by omega
    refine ⟨.list c [] none,⟨[],rfl,Nat.zero_le _,fun x hx=>by cases hx⟩,?_⟩
    have:qfu W F self (.slice (some a) 0 0)=.slice self 0 0 0 1 (some 0):=by simp [qfu]
    rw [this]
    exact .list (qzf hself) (zN _) (hM self) rfl (by simp) ⟨h5,.inr ⟨Nat.one_pos,rfl,rfl⟩⟩ (fun k hk=>by cases hk;exact zN _) (fun i hi=>by simp at hi) trivial
   .obtain ⟨cs0,m0,r0,q0,_⟩:=hr 0 (by omega)
    obtain ⟨hsp,arr,el,fz,hb⟩:=zez h5 q0
    obtain ⟨b,off,spot⟩:=a
    simp only at hsp hb
    subst hsp
    have hcell:=qu8 (w:=wd0 (qi9 W F ng) M C.codec) ok hb h1 h3 (fun cs q1 q2=>qq4 (T:=fun c'=>qlg good X sz P F cd depth n c'/\q0p sz P F cd depth c') (fun c' hc' x hx=>qv0 ok hM n hc'.1 hc'.2 hb hx) h2 q1 q2) h6 hr
    have hsz:=zg4 (Q:=fun cs i=>_) h5 (fun h=>absurd h hc0) hcell
    have hFs:F arr off=sz c:=by
     obtain ⟨_,_,_,q,_⟩:=hcell 0 (by omega)
     exact hFk e ls he h1 arr off fun i leaf hi=>by have:=q i leaf hi;simpa using this
    have habs:qfu W F self (.slice (some ⟨b,off,none⟩) len cap)=.slice b 0 off len (sz c) (some cap):=by
     simp only [qfu,zF hc0,hb]
     rw [zT ⟨trivial,hl,by rw [hFs];exact hsz⟩,hFs]
    rw [habs]
    exact qnb ok hM hb h5 hl hcap hsz hcell
theorem qv4 {C:ZC K} (ok:CfgOk X sz C) {depth ng n:Nat} {base:Nat} {u:TypeId} {leaf:Leaf4} {x:Value} {M:Nat->Prop} (hM:∀ n,¬ M n) (ht:leaf.flat=true∨∃ c,leaf=.list c/\qlg good X sz P F cd depth n c) (hc:Cell.okWide P W .any base u x) (h:qac enc P W cd leaf x) :
  ∃ (p:PV K) (v:V),qlc good leaf p/\Rep X sz (wd0 (qi9 W F ng) M C.codec) p v/\Go.E2.Rel (qbz W) W v x:=by
 rcases ht with hf | ⟨c,rfl,fo⟩
 .obtain ⟨p,h1,h2⟩:=qmq (X:=X) (sz:=sz) (w:=wd0 (qi9 W F ng) M C.codec) hf h
  exact ⟨p,qd6 x,h1,h2,q42 hf h _⟩
 .cases n with
  | zero=>exact fo.elim
  | succ n=>
   rcases h with rfl | ⟨e,a,len,cap,he,rfl,hl,hcap,hr⟩
   .exact ⟨.list c [] none,.nils,⟨[],rfl,Nat.zero_le _,fun x hx=>by cases hx⟩,.nlist trivial,by simp [Go.E2.Rel]⟩
   .obtain ⟨hsp,arr,el,fz,hb,hoff⟩:=q6d hc
    obtain ⟨b,off,spot⟩:=a
    simp only at hsp hb hoff
    subst hsp
    obtain ⟨ls,h1,h2,h3,h4,h5,h6⟩:=fo e he
    rw [h4] at hr
    have hcell:=qu8 (w:=wd0 (qi9 W F ng) M C.codec) ok hb h1 h3 (fun cs q1 q2=>qq4 (T:=fun c'=>qlg good X sz P F cd depth n c'/\q0p sz P F cd depth c') (fun c' hc' x hx=>qv0 ok hM n hc'.1 hc'.2 hb hx) h2 q1 q2) h6 hr
    have hsz:=zg4 (Q:=fun cs i=>_) h5 (fun _=>hoff) hcell
    obtain ⟨p,g1,g2⟩:=qnb ok hM hb h5 hl hcap hsz hcell
    have hlm:len * sz c<=cap * sz c:=zU _ hl
    refine ⟨p,_,g1,g2,?_⟩
    simp only [Go.E2.Rel]
    exact ⟨b,0,arr.size,off,cap,el,arr.size,_,qf6 hb,rfl,.inr rfl,hl,Nat.zero_le _,by omega,.inl rfl,fun k hk=>by cases hk;exact ⟨rfl,hsz⟩,by simp only [World.shape?,hb],hsz⟩
theorem qpm {C:ZC K} (ok:CfgOk X sz C) {depth ng n:Nat} {base:Nat} {M:Nat->Prop} (hM:∀ n,¬ M n):∀ {ls:List Leaf4} {cs:List Value},(∀ leaf ∈ ls,leaf.flat=true∨∃ c,leaf=.list c/\qlg good X sz P F cd depth n c)->cs.length=ls.length->
  (∀ (i:Nat) x,cs[i]? = some x->∃ u,Cell.okWide P W .any base u x)->(∀ (i:Nat) leaf x,ls[i]? = some leaf->cs[i]? = some x->qac enc P W cd leaf x)->
  ∃ (ps:List (PV K)) (vs:List V),qe8 good ls ps/\qu X sz (wd0 (qi9 W F ng) M C.codec) ps vs/\Go.E2.qn (qbz W) W vs cs
 | [],[],_,_,_,_=>⟨[],[],rfl,.nil,by simp [Go.E2.qn]⟩
 | [],_::_,_,h,_,_=>by simp at h
 | _::_,[],_,h,_,_=>by simp at h
 | l::ls,x::cs,ht,hl,hc,hr=>by
  obtain ⟨u,hu⟩:=hc 0 x rfl
  obtain ⟨p,v,h1,h2,h3⟩:=qv4 (ng:=ng) ok hM (ht l zC) hu (hr 0 l x rfl rfl)
  obtain ⟨ps,vs,h4,h5,h6⟩:=qpm (ng:=ng) ok hM (cs:=cs) (ls:=ls) (fun leaf hm=>ht leaf (zG _ hm)) (by simpa using hl) (fun i y hy=>hc (i+1) y (by simpa using hy)) fun i leaf y h7 h8=>hr (i+1) leaf y (by simpa using h7) (by simpa using h8)
  exact ⟨p::ps,v::vs,⟨p,ps,rfl,h1,h4⟩,.cons h2 h5,Go.E2.qn.cons h3 h6⟩
theorem zqk {C:ZC K} (ok:CfgOk X sz C) {depth ng n:Nat} {base:Nat} {M:Nat->Prop} (hM:∀ n,¬ M n) {t:TypeId} {v:Value} {d:DataW Hd} {ps:List MemPlace} {leaf:Leaf4} (hT:leaf.flat=true∨∃ c,leaf=.list c/\qlg good X sz P F cd depth n c)
  (ht:(match P.underlying t with | some (.struct _) | some (.array _ _)=>false | _=>true)=true) (hl:qmh P cd depth t=some [leaf]) (hv:Value.okWide P W .any base t v) (hd:DataW.Trod enc P W 0 (fun _=>true) true t v d ps) :
  ∃ (p:PV K) (u:V),qlc good leaf p/\Rep X sz (wd0 (qi9 W F ng) M C.codec) p u/\Go.E2.Rel (qbz W) W u v:=by
 obtain ⟨n,hn⟩:=hd
 obtain ⟨h1,h2⟩:=qgd depth hn hl
 have hcell:Cell.okWide P W .any base t v:=by
  unfold Value.okWide at hv
  split at hv
  .rename_i h;simp [h] at ht
  .rename_i h;simp [h] at ht
  .exact hv
 have hcs:v.cells.toList=[v]:=by
  cases v with
  | agg cs=>
   exfalso
   unfold Cell.okWide at hcell
   split at hcell<;>first | (rename_i hx;cases hx;done) | skip
   unfold Cell.ok at hcell
   split at hcell<;>first | (rename_i hx;cases hx;done) | exact hcell
  | _=>rfl
 exact qv4 ok hM hT hcell (h2 0 leaf v rfl (by rw [hcs];rfl))
theorem zng {C:ZC K} (ok:CfgOk X sz C) {depth ng n:Nat} {base:Nat} {M:Nat->Prop} (hM:∀ n,¬ M n) {t:TypeId} {v:Value} {d:DataW Hd} {ps:List MemPlace} {ls:List Leaf4} {fs:Array Field} (hT:∀ leaf ∈ ls,leaf.flat=true∨∃ c,leaf=.list c/\qlg good X sz P F cd depth n c)
  (ht:P.underlying t=some (.struct fs)) (hl:qmh P cd depth t=some ls) (hv:Value.okWide P W .any base t v) (hd:DataW.Trod enc P W 0 (fun _=>true) true t v d ps) :
  ∃ (ps:List (PV K)) (u:V),qe8 good ls ps/\Rep X sz (wd0 (qi9 W F ng) M C.codec) (.agg ps) u/\Go.E2.Rel (qbz W) W u v:=by
 obtain ⟨n,hn⟩:=hd
 obtain ⟨h1,h2⟩:=qgd depth hn hl
 unfold Value.okWide at hv
 rw [ht] at hv
 obtain ⟨cs,rfl,_,ts,_,_,hts⟩:=hv
 have hcs:(Value.agg cs).cells.toList=cs.toList:=rfl
 rw [hcs] at h1 h2
 obtain ⟨qs,vs,h3,h4,h5⟩:=qpm (ng:=ng) ok hM hT h1 (fun i x hx=>by
  obtain ⟨u,_,hu⟩:=hts i x (by simpa using hx)
  exact ⟨u,hu⟩) h2
 exact ⟨qs,.agg vs,h3,.agg h4.1 h4.2,by simp only [Go.E2.Rel];exact ⟨cs,rfl,h5⟩⟩
end
end Go.E3
/- PLAIN LEAN FOR CONDITIONS: elements, bytes, parts of lists by numbers; places up to which something holds; cuts at a byte. No program in sight. -/
namespace Go.E3
theorem qn9 {α:Type} [Inhabited α] {l:List α} {i:Nat} (h:i<l.length):ix l (i:Int)=l[i]:=by
 simp [ix,List.getD_eq_getElem?_getD,h]
theorem qco {α:Type} [Inhabited α] {a:α} {l:List α} {i:Int} (h:0<=i):ix (a::l) (i+1)=ix l i:=by
 have:(i+1).toNat=i.toNat+1:=by omega
 simp [ix,this]
theorem zfd {α:Type} (l:List α):upto l 0=[]:=rfl
theorem qn1 {α:Type} {l:List α} {i:Int} (h:ln l<=i):fr l i=[]:=by
 apply List.drop_of_length_le;simp only [ln] at h;omega
theorem qw9 {α:Type} {l:List α} {i:Int} (h:ln l<=i):upto l i=l:=by
 apply List.take_of_length_le;simp only [ln] at h;omega
theorem qem {α:Type} [Inhabited α] {l:List α} {i:Int} (h0:0<=i) (h:i<ln l):fr l i=ix l i::fr l (i+1):=by
 have hi:i.toNat<l.length:=by simp only [ln] at h;omega
 have e:(i+1).toNat=i.toNat+1:=by omega
 unfold fr ix
 rw [List.drop_eq_getElem_cons hi,e,List.getD_eq_getElem?_getD,List.getElem?_eq_getElem hi]
 rfl
theorem zfc {α:Type} [Inhabited α] {l:List α} {i:Int} (h0:0<=i) (h:i<ln l):upto l (i+1)=upto l i++[ix l i]:=by
 have hi:i.toNat<l.length:=by simp only [ln] at h;omega
 have e:(i+1).toNat=i.toNat+1:=by omega
 unfold upto ix
 rw [e,List.take_add_one,List.getD_eq_getElem?_getD,List.getElem?_eq_getElem hi]
 rfl
theorem zn {α:Type} (l:List α):0<=ln l:=Int.natCast_nonneg _
theorem qq5 {α:Type} (l m:List α):ln (l++m)=ln l+ln m:=by simp [ln]
theorem qeo {α:Type} (a:α) (l:List α):ln (a::l)=ln l+1:=by simp [ln]
theorem qkp {α:Type}:ln ([]:List α)=0:=rfl
theorem qje {α:Type} {l:List α} (h:ln l<=0):l=[]:=by
 cases l with
 | nil=>rfl
 | cons a l=>simp only [ln,List.length_cons] at h;omega
theorem qc5 {α:Type} {l m:List α} (h:ln l+ln m<=1000000000):qb8 (l.length+m.length):=by simp only [ln,qb8] at *;omega
theorem qk2 {α:Type} {l:List α} {a:α} (h:ln l+1<=1000000000):qb8 (l.length + [a].length):=by simp only [ln,qb8,List.length_cons,List.length_nil] at *;omega
theorem za0 {α:Type} (l:List α) (a:α):ln (l++[a])=ln l+1:=by simp [ln]
theorem znj {α:Type} {l:List α} {i j:Int} (h0:0<=i) (h1:0<=j):fr (fr l i) j=fr l (i+j):=by
 simp only [fr,List.drop_drop]
 have:i.toNat+j.toNat=(i+j).toNat:=by omega
 rw [this]
theorem znl {α:Type} [Inhabited α] {s:List α} {i j:Int} (h0:0<=i) (h1:0<=j):ix (fr s i) j=ix s (i+j):=by
 have:i.toNat+j.toNat=(i+j).toNat:=by omega
 simp only [ix,fr,List.getD_eq_getElem?_getD,List.getElem?_drop,this]
theorem qly {α:Type} [Inhabited α] {l m:List α} (h:ln l=ln m) (he:∀ i,0<=i->i<ln l->ix l i=ix m i):l=m:=by
 apply List.ext_getElem (by simp only [ln] at h;omega)
 intro i h1 h2
 have:=he i (by omega) (by simp only [ln];omega)
 rwa [qn9 h1,qn9 h2] at this
theorem q6q {α:Type} {l:List α} {i:Int} {a:α} (h0:0<=i) (h:i<ln l):upto (l.set i.toNat a) (i+1)=upto l i++[a]:=by
 have hi:i.toNat<l.length:=by simp only [ln] at h;omega
 have e:(i+1).toNat=i.toNat+1:=by omega
 unfold upto
 rw [e,List.take_add_one,List.take_set_of_le (zN _),List.getElem?_set_self hi]
 rfl
theorem qq6 {α:Type} {l:List α} {i:Nat} {a:α}:ln (l.set i a)=ln l:=by simp [ln]
end Go.E3
