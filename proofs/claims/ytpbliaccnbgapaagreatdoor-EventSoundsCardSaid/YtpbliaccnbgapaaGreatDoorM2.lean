/- A VERIFIED EVALUATOR, texts E2n, E2o, E2p, E2q, E2r, E2x, E2s, E2t, E2u, E2v, E2z in one. -/
import Derived.Test.YtpbliaccnbgapaaGreatDoorM1
import Derived.TacticsIn
import Derived.LoopNIn
import Derived.RangeFuncLeaves
import Derived.RangeFuncCalls
import Derived.RecoverIn
import Derived.Laws.Externs
import Derived.Lib.Bytealg
import Derived.Lib.Builder
import Derived.ChangeSame
import Derived.RowKit
import Derived.OpenShut
import Derived.Deep.DeepHandedRow
/- E2: ONE OPERATION: what E2 makes of it the model makes of it. -/
namespace Go.E2
open Go
section
variable {P:Program} {sp:Nat->Option (List V->Heap->Option (CR×Heap))} {o:Oper} {a:Act} {H:Heap} {G:qi} {w:World} {fr:Fr}
theorem qx7 {d:Nat} {t:TypeId} {fs:Array Field} (h:qfo P (d+1) t=true) (hu:P.underlying t=some (.struct fs)):P.eqGuardType P.depth t=false:=by
 simp only [qfo,hu,zA,Bool.not_eq_true'] at h
 exact h.1.2
theorem q7x {op:BinOp} {t:TypeId} {x y:Operand} {p q v:V} {rx ry:Value} {E:Env} (hE:E=qo P sp) (hx:Rel G w p rx) (hy:Rel G w q ry) (h:qaz E op t p q=some v)
  (hc:p≠.nili∨q≠.nili∨(∃ c,x=.const c)∨(∃ c,y=.const c)):∀ w',(eqGuard op t x y rx ry).run P w'=.ok () w':=by
 intro w'
 subst hE
 by_cases hop:op=.eql∨op=.neq
 case neg=>
  clear h
  unfold eqGuard
  cases op<;>first | (simp;done) | exact (hop (.inl rfl)).elim | exact (hop (.inr rfl)).elim
 have hnil:∀ {u:V},Rel G w u .nilIface->u=.nili:=by
  intro u hu
  cases u<;>simp only [Rel,reduceCtorEq,false_and,and_false,exists_false] at hu
  all_goals first
   | rfl
   | (simp at hu;done)
   | grind
 have hagg:∀ {u:V} {xs:Array Value},Rel G w u (.agg xs)->∃ cs,u=.agg cs:=by
  intro u xs hu
  cases u<;>simp only [Rel,reduceCtorEq,false_and,and_false,exists_false] at hu
  all_goals first
   | exact ⟨_,rfl⟩
   | (simp at hu;done)
   | grind
 have hgu:eqGuard op t x y rx ry=eqGuard .eql t x y rx ry:=by
  rcases hop with rfl | rfl<;>rfl
 rw [hgu]
 unfold eqGuard
 simp only [Bool.not_true,Bool.false_eq_true,if_false]
 split
 .have h1:=hnil hx
  have h2:=hnil hy
  rcases hc with hc | hc | ⟨c,hc⟩ | ⟨c,hc⟩
  .exact (hc h1).elim
  .exact (hc h2).elim
  .subst hc;simp
  .subst hc;simp
 .obtain ⟨xs,rfl⟩:=hagg hx
  obtain ⟨ys,rfl⟩:=hagg hy
  have key:∃ b,eqV (qo P sp) 1000 t (.agg xs) (.agg ys)=some b:=by
   rcases hop with rfl | rfl
   .simp only [qaz,zM] at h;obtain ⟨b,hb,_⟩:=h;exact ⟨b,hb⟩
   .simp only [qaz,zM] at h;obtain ⟨b,hb,_⟩:=h;exact ⟨b,hb⟩
  obtain ⟨b,hb⟩:=key
  have hg:P.eqGuardType P.depth t=false:=by
   simp only [eqV] at hb
   split at hb
   .cases hb
   .rename_i ti ht
    have hus:=(qj ht).1
    split at hb<;>first
     | (cases hb;done)
     | skip
    all_goals first
     | (rename_i h2 h3;cases h2;done)
     | (rename_i h1 h2 h3;cases h2;done)
     | skip
    rename_i fs xs' ys' hti h2 h3
    rw [cond_eq_ite] at hb
    split at hb
    .rename_i hok
     exact qx7 (d:=19) hok (hti ▸ hus)
    .cases hb
  simp [hg]
 .simp
theorem qan.length:∀ {es:List (V×V×Nat)} {l:List MapEntry},qan G w es l->es.length=l.length
 | [],_,h=>by simp only [qan] at h;subst h;rfl
 | (k,v,b)::es,_,h=>by
  simp only [qan] at h
  obtain ⟨x,xs,rfl,_,_,_,h⟩:=h
  simp [qan.length h]
theorem qzq:∀ (l:List V) (x v:V) (rx:Value) (rl:List Value),Rel G w x rx->qm G w l rl->q2e false x l=some v->∃ rv,(rl.foldlM Builtin.min2 rx).run P w=.ok rv w/\Rel G w v rv
 | [],x,v,rx,rl,hx,hl,h=>by
  simp only [qm] at hl
  subst hl
  simp only [q2e,zS] at h
  subst h
  exact ⟨rx,by simp,hx⟩
 | u::l,x,v,rx,rl,hx,hl,h=>by
  simp only [qm] at hl
  obtain ⟨ru,rl',rfl,hu,hl⟩:=hl
  unfold q2e at h
  split at h
  .rename_i heq;cases heq
  .rename_i k p k' q rest heq
   cases heq
   simp only [Rel] at hx hu
   subst hx;subst hu
   obtain ⟨rv,h1,h2⟩:=qzq l _ v (.int k (if q<p then q else p)) rl' (by simp [Rel]) hl h
   exact ⟨rv,by simp only [List.foldlM_cons,Builtin.min2,Sem.run_bind,Sem.run_pure,Result.andThen_ok];exact h1,h2⟩
  .cases h
theorem qzp:∀ (l:List V) (x v:V) (rx:Value) (rl:List Value),Rel G w x rx->qm G w l rl->q2e true x l=some v->∃ rv,(rl.foldlM Builtin.max2 rx).run P w=.ok rv w/\Rel G w v rv
 | [],x,v,rx,rl,hx,hl,h=>by
  simp only [qm] at hl
  subst hl
  simp only [q2e,zS] at h
  subst h
  exact ⟨rx,by simp,hx⟩
 | u::l,x,v,rx,rl,hx,hl,h=>by
  simp only [qm] at hl
  obtain ⟨ru,rl',rfl,hu,hl⟩:=hl
  unfold q2e at h
  split at h
  .rename_i heq;cases heq
  .rename_i k p k' q rest heq
   cases heq
   simp only [Rel] at hx hu
   subst hx;subst hu
   obtain ⟨rv,h1,h2⟩:=qzp l _ v (.int k (if q > p then q else p)) rl' (by simp [Rel]) hl h
   exact ⟨rv,by simp only [List.foldlM_cons,Builtin.max2,Sem.run_bind,Sem.run_pure,Result.andThen_ok];exact h1,h2⟩
  .cases h
theorem zmn {ats:Array TypeId} {ty:TypeId} {l c:Nat}:(Builtin.unsafeSliceData_ ats ty #[.slice none l c]).run P w=.ok (.pointer none) w:=rfl
theorem zi1 {ats:Array TypeId} {ty:TypeId} {ad:Addr} {l c:Nat} (h:c≠0):(Builtin.unsafeSliceData_ ats ty #[.slice (some ad) l c]).run P w=.ok (.pointer (some ad)) w:=by
 change Sem.run P (if c≠0 then pure (Value.pointer (some ad)) else _) w=_
 rw [zT h]
 rfl
theorem qs8 (hs:Sim H G w) (e:SimFr G w fr a) {c:Go.Call} {b:Builtin} (ho:o.op=.call c) (hc:c.callee=.builtin b) {args:List V} {out:Out} {H':Heap} (hargs:qbj fr H c.args.toList=some args)
  (h:jh (qo P sp) b c.argTypes.toList args H=some (out,H')):z7 P o a H G w H' out:=by
 unfold jh at h
 split at h
 .
  split at h
  .rename_i t hat
   simp only [qo,zI] at h
   obtain ⟨ti,ht,h⟩:=h
   have hus:=(qj ht).1
   split at h
   .rename_i n el hti
    cases h
    exact qrh hs e ho hc hargs hat (fun rx hx ty=>by rw [hti] at hus;simp [Builtin.len_,run_underlying hus])
   .rename_i s hti
    cases h
    refine qrh hs e ho hc hargs hat (fun rx hx ty=>?_)
    simp only [Rel] at hx
    subst hx
    rw [hti] at hus
    have hsz:(ByteArray.mk s.toArray).size=s.length:=by simp [ByteArray.size]
    simp [Builtin.len_,run_underlying hus,hsz]
   .rename_i el hti
    cases h
    refine qrh hs e ho hc hargs hat (fun rx hx ty=>?_)
    simp only [Rel] at hx
    subst hx
    rw [hti] at hus
    simp [Builtin.len_,run_underlying hus]
   .rename_i el nm g off len sz cap hti
    cases h
    refine qrh hs e ho hc hargs hat (fun rx hx ty=>?_)
    simp only [Rel] at hx
    obtain ⟨b,sh,n,ro,c,e',m,_,_,rfl,_⟩:=hx
    rw [hti] at hus
    simp [Builtin.len_,run_underlying hus]
   .rename_i kt et hti
    cases h
    refine qrh hs e ho hc hargs hat (fun rx hx ty=>?_)
    simp only [Rel] at hx
    subst hx
    rw [hti] at hus
    simp [Builtin.len_,run_underlying hus]
   .rename_i kt et nm hti
    split at h
    .rename_i es ck hom
     cases h
     refine qrh hs e ho hc hargs hat (fun rx hx ty=>?_)
     simp only [Rel] at hx
     obtain ⟨b,sh,n,h1,rfl⟩:=hx
     obtain ⟨_,res,h2,h3⟩:=hs.obj nm _ (hs.lt _ _ _ _ _ h1).2 hom 0 b sh n h1
     rw [hti] at hus
     have hl:es.length=res.size:=by simpa using h3.length
     simp [Builtin.len_,run_underlying hus,getObj,Sem.run,h2,hl]
    .cases h
   .cases h
  .cases h
 .
  split at h
  .rename_i t u hat
   simp only [qo,zI] at h
   obtain ⟨ti,ht,ui,hu,h⟩:=h
   split at h
   .rename_i el e' hti hui
    simp only [zI,zM,zP] at h
    obtain ⟨ei,hel,⟨v,H1⟩,h1,rfl,rfl⟩:=h
    exact qzw hs e ho hc hargs hat ht hu hti (.inl ⟨_,hui⟩) hel h1
   .rename_i el hti hui
    simp only [zI,zM,zP] at h
    obtain ⟨ei,hel,⟨v,H1⟩,h1,rfl,rfl⟩:=h
    exact qzw hs e ho hc hargs hat ht hu hti (.inr hui) hel h1
   .cases h
  .cases h
 .
  split at h
  .rename_i t u hat
   simp only [qo,zI] at h
   obtain ⟨ti,ht,h⟩:=h
   split at h
   .rename_i el hti
    simp only [zI] at h
    obtain ⟨ei,hel,h⟩:=h
    split at h
    .rename_i nm g off len sz cap nm' g' off' len' sz' cap'
     rw [cond_eq_ite] at h
     split at h
     .rename_i hb
      simp only [zA,Nat.beq_eq] at hb
      obtain ⟨b1,b2⟩:=hb
      subst b1;subst b2
      simp only [zI,zM,zP] at h
      obtain ⟨r,hr,H1,h1,rfl,rfl⟩:=h
      exact zly hs e ho hc hargs hat ht hti hel hr h1
     .cases h
    .cases h
   .cases h
  .cases h
 .
  split at h
  .rename_i t hat
   simp only [qo,zI] at h
   obtain ⟨ti,ht,h⟩:=h
   split at h
   .rename_i el hti
    split at h
    .simp only [zS,zP] at h
     obtain ⟨rfl,rfl⟩:=h
     exact qzx hs e ho hc hargs hat ht hti (.inl rfl)
    .rename_i nm g off len sz cap
     simp only [zI] at h
     obtain ⟨ei,hel,h⟩:=h
     rw [cond_eq_ite] at h
     split at h
     .rename_i hb
      rw [Nat.beq_eq] at hb
      subst hb
      split at h
      .rename_i h0
       simp only [zS,zP] at h
       obtain ⟨rfl,rfl⟩:=h
       subst h0
       exact qzx hs e ho hc hargs hat ht hti (.inr ⟨_,_,_,_,_,rfl⟩)
      .rename_i h0
       simp only [zM,zP] at h
       obtain ⟨H1,h1,rfl,rfl⟩:=h
       exact zhu hs e ho hc hargs hat ht hti hel h0 h1
     .cases h
    .cases h
   .cases h
  .cases h
 .
  obtain ⟨hr,cs,hrun⟩:=qb3 (P:=P) hs e ho hc hargs
  obtain ⟨rx,hra,hx⟩:=qto hr
  rw [hra] at hrun
  split at h
  .cases h
   simp only [Rel] at hx
   subst hx
   exact z7.pure hs (x:=.pointer none) (by rw [hrun];simp only [builtin,Sem.run_bind,zmn,Result.andThen_ok,Sem.run_pure]) (by simp [Rel])
  .rename_i nm g off len sz cap
   rw [cond_eq_ite] at h
   split at h
   .rename_i hlen
    rw [Nat.blt_eq] at hlen
    cases h
    simp only [Rel] at hx
    obtain ⟨b,sh,n,ro,c,e',m,ad,e1,rfl,e0,e3,e4,e5,e6,e7,e8,e9⟩:=hx
    have hc0:c≠0:=by omega
    obtain rfl:ad=⟨b,ro,none⟩:=by
     rcases e0 with e0 | e0
     .exact absurd e0 hc0
     .exact e0
    refine z7.pure hs (x:=.pointer (some ⟨b,ro,none⟩)) (by rw [hrun];simp only [builtin,Sem.run_bind,zi1 hc0,Result.andThen_ok,Sem.run_pure]) ?_
    simp only [Rel]
    refine ⟨b,sh,n,e1,e4,e5,?_⟩
    have:ro=off-sh:=by omega
    rw [this]
   .cases h
  .cases h
 .
  split at h
  .rename_i pt it hat
   split at h
   .split at h
    .rename_i hn
     subst hn
     cases h
     exact qoc hs e ho hc hargs hat
    .cases h
   .rename_i n nm g lim
    simp only [qo,zI] at h
    obtain ⟨ti,ht,h⟩:=h
    split at h
    .rename_i el cells elem gen floor frz exact hti hob
     simp only [zI] at h
     obtain ⟨ei,hel,h⟩:=h
     split at h
     .rename_i hb
      obtain ⟨b1,b2,b3,b4,b5⟩:=hb
      subst b1;subst b5
      simp only [zI,zM,zP] at h
      obtain ⟨cs,hcs,l,hl,H1,hu,rfl,rfl⟩:=h
      exact qtd hs e ho hc hargs hat ht hti hel b2 hob b3 b4 hcs hl hu
     .cases h
    .cases h
   .cases h
  .cases h
 .
  simp only [zM,zP] at h
  obtain ⟨v,h1,rfl,rfl⟩:=h
  obtain ⟨hr,cs,hrun⟩:=qb3 (P:=P) hs e ho hc hargs
  simp only [qm] at hr
  obtain ⟨rx,rl,hra,hx,hl⟩:=hr
  obtain ⟨rv,h2,h3⟩:=qzq (P:=P) _ _ _ _ _ hx hl h1
  refine z7.pure hs (x:=rv) ?_ h3
  rw [hrun]
  simp only [builtin,Builtin.min_,hra,Sem.run_bind,h2,Result.andThen_ok,Sem.run_pure]
 .
  simp only [zM,zP] at h
  obtain ⟨v,h1,rfl,rfl⟩:=h
  obtain ⟨hr,cs,hrun⟩:=qb3 (P:=P) hs e ho hc hargs
  simp only [qm] at hr
  obtain ⟨rx,rl,hra,hx,hl⟩:=hr
  obtain ⟨rv,h2,h3⟩:=qzp (P:=P) _ _ _ _ _ hx hl h1
  refine z7.pure hs (x:=rv) ?_ h3
  rw [hrun]
  simp only [builtin,Builtin.max_,hra,Sem.run_bind,h2,Result.andThen_ok,Sem.run_pure]
 .cases h
theorem q8u {b:Nat} {x} (h:w.shape? b=some x):(viewAt b).run P w=.ok none w:=by
 simp [viewAt,h]
theorem qwz {ad:Addr} {x} (h:w.shape? ad.block=some x):(Conv.seenAt ad).run P w=.ok ad w:=by
 simp [Conv.seenAt,q8u h]
theorem q59 {b:Nat} {t:TypeId} {k:Nat} (h:w.shape? b=some (t,k)):(cellsIn b).run P w=.ok (some k) w:=by
 simp [cellsIn,h]
theorem qtb (hs:Sim H G w) (e:SimFr G w fr a) {src dst el:TypeId} {si di ei:TI} (hsi:typeOf P src=some si) (hdi:typeOf P dst=some di) (hel:typeOf P el=some ei) (hus:si.under=.pointer el)
  (hud:di.under=.unsafePointer) {x:Operand} (ho:o.op=.convert src dst x) {nm g off lim:Nat} (hp:opd fr H x=some (.ptr nm g off lim)) {cells:List V} {elem:TypeId} {gen floor frz:Nat} {exact:Bool}
  (hob:H.get nm=some (.row cells elem gen floor frz exact)) (h1:floor<=g) (h2:0<ei.size) (h3:off+1<=lim):z7 P o a H G w H (.val (.ptr nm g off lim)):=by
 have hr:=qp hs e hp
 have hr':=hr
 simp only [Rel] at hr
 obtain ⟨b,sh,n,hg,q1,q2,hv⟩:=hr
 obtain ⟨_,_,q⟩:=hs.obj nm _ (hs.lt _ _ _ _ _ hg).2 hob
 obtain ⟨_,_,_,_,_,q5⟩:=q g b sh n hg
 obtain ⟨arr,fz,a1,a2,_⟩:=q5 h1
 have hsh:w.shape? b=some (elem,arr.size):=by simp only [World.shape?,a1]
 have hu1:P.underlying src=some (.pointer el):=hus ▸ (qj hsi).1
 have hu2:P.underlying dst=some .unsafePointer:=hud ▸ (qj hdi).1
 refine z7.pure hs (x:=.pointer (some ⟨b,off-sh,none⟩)) ?_ (hv ▸ hr')
 have hsz:=zx (P:=P) hel
 have hne:¬ ei.size=0:=by omega
 have hlt:¬ arr.size<=off-sh:=by omega
 simp [execOp,ho,hv,convert,run_underlying hu1,run_underlying hu2,Conv.unsafePointer,qwz (P:=P) (ad:=⟨b,off-sh,none⟩) hsh,q59 (P:=P) hsh,hsz,hne,hlt]
theorem qp2 (hs:Sim H G w) (e:SimFr G w fr a) {src dst el:TypeId} {si di ei li:TI} (hsi:typeOf P src=some si) (hdi:typeOf P dst=some di) (hel:typeOf P el=some ei) (hus:si.under=.unsafePointer)
  (hud:di.under=.pointer el) {x:Operand} (ho:o.op=.convert src dst x) {nm g off lim:Nat} (hp:opd fr H x=some (.ptr nm g off lim)) {cells:List V} {elem:TypeId} {gen floor frz:Nat}
  (hob:H.get nm=some (.row cells elem gen floor frz true)) (hli:typeOf P elem=some li) (h1:floor<=g) (h2:0<ei.size) (h3:liesAt P P.depth elem (cells.length / li.size) off el 1=true):z7 P o a H G w H (.val (.ptr nm g off lim)):=by
 have hr:=qp hs e hp
 have hr':=hr
 simp only [Rel] at hr
 obtain ⟨b,sh,n,hg,q1,q2,hv⟩:=hr
 obtain ⟨_,_,q⟩:=hs.obj nm _ (hs.lt _ _ _ _ _ hg).2 hob
 obtain ⟨_,_,_,_,q4,q5⟩:=q g b sh n hg
 obtain ⟨arr,fz,a1,a2,_,_,a5⟩:=q5 h1
 have hsh:w.shape? b=some (elem,arr.size):=by simp only [World.shape?,a1]
 have hu1:P.underlying src=some .unsafePointer:=hus ▸ (qj hsi).1
 have hu2:P.underlying dst=some (.pointer el):=hud ▸ (qj hdi).1
 have h0:off-sh=off:=by have:=q4 rfl;omega
 refine z7.pure hs (x:=.pointer (some ⟨b,off-sh,none⟩)) ?_ (hv ▸ hr')
 have hsz:=zx (P:=P) hel
 have hne:¬ ei.size=0:=by omega
 have hc:P.cellsOf elem=li.size:=by
  obtain ⟨_,_,i,z,hi,hs',_⟩:=qj hli
  simp [Program.cellsOf,hi,hs']
 have hva:(variablesAt ⟨b,off-sh,none⟩ el 1).run P w=.ok true w:=by
  simp [variablesAt,program,Sem.run,hsh,hc,h0,a5 rfl,h3]
 simp [execOp,ho,hv,convert,run_underlying hu1,run_underlying hu2,Conv.unsafePointer,qwz (P:=P) (ad:=⟨b,off-sh,none⟩) hsh,hsz,hne,hva]
theorem qf3 (hs:Sim H G w) (e:SimFr G w fr a) {out:Out} {H':Heap} (h:zz (qo P sp) o fr H=some (out,H')):z7 P o a H G w H' out:=by
 unfold zz at h
 split at h
 .
  rename_i x ho
  simp only [zM,zP] at h
  obtain ⟨v,h1,rfl,rfl⟩:=h
  exact zao hs e (.inl ho) h1
 .rename_i x ho
  simp only [zM,zP] at h
  obtain ⟨v,h1,rfl,rfl⟩:=h
  exact zao hs e (.inr ho) h1
 .
  rename_i c x y ho
  split at h
  .rename_i b hb
   simp only [zM,zP] at h
   obtain ⟨v,h1,rfl,rfl⟩:=h
   exact zl1 hs e ho hb h1
  .cases h
 .
  rename_i t ho
  simp only [qo,zM,zP] at h
  obtain ⟨ti,ht,rfl,rfl⟩:=h
  exact zhs hs ho ht
 .
  rename_i t x ho
  simp only [zI,zS,zP] at h
  obtain ⟨v,h1,rfl,rfl⟩:=h
  exact zpf hs e ho h1
 .
  rename_i t parts ho
  simp only [qo,zI] at h
  obtain ⟨ti,ht,vs,hv,h⟩:=h
  split at h
  .rename_i fs hti
   simp only [cond_eq_ite,Bool.not_eq_true'] at h
   split at h
   .cases h
   .rename_i hall
    simp only [zM,zP] at h
    obtain ⟨v,⟨cs,h1,rfl⟩,rfl,rfl⟩:=h
    refine qwp hs e ht hti ho hv (fun f hf=>?_) h1
    have hall':fs.toList.all (fun f=>(typeOf P f.type).isSome)=true:=by
     cases hq:fs.toList.all (fun f=>(typeOf P f.type).isSome) with
     | true=>rfl
     | false=>exact absurd hq hall
    have:=List.all_eq_true.1 hall' f hf
    exact Option.isSome_iff_exists.1 this
  .rename_i n el hti
   simp only [zI,zM,zP] at h
   obtain ⟨ei,hel,v,⟨cs,h1,rfl⟩,rfl,rfl⟩:=h
   exact qx4 hs e ht hti hel ho hv h1
  .cases h
 .
  rename_i t len parts ho
  simp only [qo,zI] at h
  obtain ⟨ti,ht,vs,hv,h⟩:=h
  split at h
  .rename_i el hti
   simp only [zI,cond_eq_ite,Nat.ble_eq] at h
   obtain ⟨ei,hel,h⟩:=h
   split at h
   .rename_i hb
    simp only [zM,zP] at h
    obtain ⟨cs,h1,rfl,rfl⟩:=h
    exact qx5 hs e ht hti hel ho hv hb h1
   .cases h
  .cases h
 .
  rename_i t x ho
  simp only [qo,zI,zM,zP] at h
  obtain ⟨ti,ht,p,hp,v,h1,rfl,rfl⟩:=h
  exact zlz hs e ht ho hp h1
 .
  rename_i t x y ho
  simp only [qo,zI,zM,zP] at h
  obtain ⟨ti,ht,p,hp,v,hv,H1,h1,rfl,rfl⟩:=h
  exact zhx hs e ht ho hp hv h1
 .
  rename_i x ho
  split at h<;>try (cases h;done)
  rename_i v n1 n2 n3 n4 hv
  cases h
  refine q5r hs e ho hv ?_
  split
  .exact (n1 rfl).elim
  .exact (n2 rfl).elim
  .exact (n3 rfl).elim
  .exact (n4 _ _ _ rfl).elim
  .trivial
 .
  rename_i op t x y t' ho
  simp only [zI] at h
  obtain ⟨p,hp,q,hq,h⟩:=h
  have key:∀ v,qaz (qo P sp) op t p q=some v->(p≠.nili∨q≠.nili∨(∃ c,x=.const c)∨(∃ c,y=.const c))->z7 P o a H G w H (.val v):=
   fun v hv hc=>zht rfl rfl hs e ho hp hq (q7x rfl (qp hs e hp) (qp hs e hq) hv hc) hv
  split at h
  .split at h
   .simp only [zM,zP] at h
    obtain ⟨v,h1,rfl,rfl⟩:=h
    exact key v h1 (.inr (.inr (.inl ⟨_,rfl⟩)))
   .simp only [zM,zP] at h
    obtain ⟨v,h1,rfl,rfl⟩:=h
    exact key v h1 (.inr (.inr (.inr ⟨_,rfl⟩)))
   .cases h
  .rename_i hn
   simp only [zM,zP] at h
   obtain ⟨v,h1,rfl,rfl⟩:=h
   refine key v h1 ?_
   by_cases hpn:p=.nili
   .by_cases hqn:q=.nili
    .exact (hn hpn hqn).elim
    .exact .inr (.inl hqn)
   .exact .inl hpn
 .
  rename_i op t x ho
  simp only [zI,zM,zP] at h
  obtain ⟨p,hp,v,h1,rfl,rfl⟩:=h
  exact zl2 hs e ho hp h1
 .
  rename_i src dst x ho
  simp only [qo,zI] at h
  obtain ⟨si,hsi,di,hdi,p,hp,h⟩:=h
  split at h
  .rename_i k0 k k' n hus hud
   cases h
   exact q8f hs e hsi hdi hus hud ho hp
  .rename_i s hus hud
   cases h
   exact q8g hs e hsi hdi hus hud ho hp
  .rename_i el hus hud
   split at h
   .cases h
   .rename_i hps
    simp only [zI] at h
    obtain ⟨ei,hel,h⟩:=h
    split at h
    .rename_i hue
     simp only [zI,zM,zP] at h
     obtain ⟨r,hr,l,hl,rfl,rfl⟩:=h
     exact q2j hs e hsi hdi hel hus hue hud ho hp (fun s hq=>hps s hq) hr hl
    .cases h
  .rename_i el nm g off lim hus hud
   simp only [zI] at h
   obtain ⟨ei,hel,h⟩:=h
   split at h
   .rename_i c1 c2 c3 floor c4 c5 hob
    rw [cond_eq_ite] at h
    split at h
    .rename_i hb
     simp only [zA,Nat.ble_eq,Nat.blt_eq] at hb
     cases h
     exact qtb hs e hsi hdi hel hus hud ho hp hob hb.1.1 hb.1.2 hb.2
    .cases h
   .cases h
  .rename_i el nm g off lim hus hud
   simp only [zI] at h
   obtain ⟨ei,hel,h⟩:=h
   split at h
   .rename_i cells elem c3 floor c4 hob
    simp only [zI] at h
    obtain ⟨li,hli,h⟩:=h
    rw [cond_eq_ite] at h
    split at h
    .rename_i hb
     simp only [zA,Nat.ble_eq,Nat.blt_eq] at hb
     cases h
     exact qp2 hs e hsi hdi hel hus hud ho hp hob hli hb.1.1 hb.1.2 hb.2
    .cases h
   .cases h
  .cases h
 .
  rename_i t x ho
  simp only [qo,zI] at h
  obtain ⟨ti,ht,h⟩:=h
  split at h
  .cases h
  .rename_i hni
   simp only [zM,zP] at h
   obtain ⟨v,⟨p,hp,rfl⟩,rfl,rfl⟩:=h
   exact qri hs e ht (fun ms hm=>hni ms hm) ho hp
 .
  rename_i fn first captured ho
  simp only [zI,zM,zP] at h
  obtain ⟨p,hp,q,hq,rfl,rfl⟩:=h
  exact q5q hs e ho hp hq
 .
  rename_i t r ho
  simp only [qo,zI] at h
  obtain ⟨ti,ht,h⟩:=h
  split at h
  .rename_i kt et hti
   cases h
   exact qwq hs e ht hti ho (fun x hx=>by cases hx)
  .rename_i kt et x hti
   simp only [zI] at h
   obtain ⟨p,hp,h⟩:=h
   split at h
   .cases h
    exact qwq hs e ht hti ho (fun x hx=>by cases hx;exact ⟨_,_,hp⟩)
   .cases h
  .cases h
 .
  rename_i t x y ho
  simp only [qo,zI] at h
  obtain ⟨ti,ht,p,hp,q,hq,h⟩:=h
  split at h
  .rename_i el l c hti
   simp only [zI] at h
   obtain ⟨ei,hel,h⟩:=h
   split at h
   .rename_i hb
    cases h
    exact q2m hs e ht hti hel ho hp hq hb.1 hb.2.1 hb.2.2.1 hb.2.2.2
   .cases h
  .cases h
 .
  rename_i t x lo hi ho
  simp only [qo,zI] at h
  obtain ⟨ti,ht,p,hp,vlo,hlo,vhi,hhi,h⟩:=h
  split at h
  .rename_i el hti
   split at h
   .cases h
   .rename_i hstr
    simp only [zI,zM,zP] at h
    obtain ⟨ei,hel,v,h1,rfl,rfl⟩:=h
    exact q8i hs e ht hti hel ho hp hlo hhi (fun s hs=>hstr s hs) h1
  .rename_i hti
   split at h
   .simp only [zM,zP] at h
    obtain ⟨v,h1,rfl,rfl⟩:=h
    exact q5u hs e ht hti ho hp hlo hhi h1
   .cases h
  .rename_i n el hti
   simp only [zI] at h
   obtain ⟨ei,hel,h⟩:=h
   split at h
   .split at h
    .rename_i c1 c2 c3 floor c4 c5 hob
     rw [cond_eq_ite] at h
     split at h
     .rename_i hb
      simp only [zA,Nat.ble_eq] at hb
      simp only [zM,zP] at h
      obtain ⟨v,h1,rfl,rfl⟩:=h
      exact q5s hs e ht hti hel ho hp hlo hhi hob hb.1 hb.2 h1
     .cases h
    .cases h
   .cases h
  .cases h
 .
  rename_i t x lo hi mx ho
  simp only [qo,zI] at h
  obtain ⟨ti,ht,p,hp,vlo,hlo,vhi,hhi,vmx,hmx,h⟩:=h
  split at h
  .rename_i el nm g off len sz cap hti
   simp only [zI,zM,zP] at h
   obtain ⟨ei,hel,v,h1,rfl,rfl⟩:=h
   exact q5t hs e ht hti hel ho hp hlo hhi hmx h1
  .cases h
 .
  rename_i s x k ho
  simp only [qo,zI,cond_eq_ite,Nat.beq_eq] at h
  obtain ⟨ti,ht,f,hf,fi,hfi,h⟩:=h
  split at h
  .cases h
  .rename_i hz
   simp only [zI] at h
   obtain ⟨p,hp,h⟩:=h
   split at h
   .cases h
    exact q2k hs e ht ho hf hfi hz hp rfl
   .cases h
 .
  rename_i t x k ho
  simp only [qo,zI] at h
  obtain ⟨ti,ht,f,hf,fi,hfi,p,hp,h⟩:=h
  split at h
  .simp only [zM,zP] at h
   obtain ⟨v,h1,rfl,rfl⟩:=h
   exact zhv hs e ht hf hfi ho hp h1
  .cases h
 .
  rename_i t x i ho
  simp only [qo,zI] at h
  obtain ⟨ti,ht,p,hp,q,hq,h⟩:=h
  split at h
  .rename_i el hti
   simp only [zI,zM,zP] at h
   obtain ⟨ei,hel,v,h1,rfl,rfl⟩:=h
   exact q2l hs e ht hti hel ho hp hq h1
  .rename_i n el hti
   simp only [zI] at h
   obtain ⟨ei,hel,h⟩:=h
   split at h
   .split at h
    .rename_i hb
     cases h
     exact qtc hs e ht hti hel ho hp hq hb.1 hb.2 rfl
    .cases h
   .cases h
  .cases h
 .
  rename_i t x i ho
  simp only [qo,zI] at h
  obtain ⟨ti,ht,p,hp,q,hq,h⟩:=h
  split at h
  .rename_i hti
   split at h
   .rename_i hb
    simp only [zM,zP] at h
    obtain ⟨b,h1,rfl,rfl⟩:=h
    exact q5p hs e ht hti ho hp hq hb h1
   .cases h
  .rename_i n el cs k j hti
   simp only [zI] at h
   obtain ⟨ei,hel,h⟩:=h
   split at h
   .rename_i hb
    simp only [zM,zP] at h
    obtain ⟨v,h1,rfl,rfl⟩:=h
    exact q5o hs e ht hti hel ho hp hq hb h1
   .cases h
  .cases h
 .
  rename_i t i ho
  simp only [zI] at h
  obtain ⟨p,hp,h⟩:=h
  split at h
  .simp only [zM,zP] at h
   obtain ⟨v,h1,rfl,rfl⟩:=h
   exact q8h hs e ho hp h1
  .cases h
 .
  rename_i c ho
  simp only [zI] at h
  obtain ⟨args,hargs,h⟩:=h
  split at h
  .rename_i f hc
   simp only [zI,zM,zP] at h
   obtain ⟨fv,hf,out',h1,rfl,rfl⟩:=h
   cases out' with
   | call tgt vs=>exact zlx hs e ho hc hargs hf h1
   | _=>unfold qds at h1;split at h1<;>cases h1
  .rename_i b hc
   exact qs8 hs e ho hc hargs h
  .cases h
 .
  rename_i t m k ok ho
  simp only [qo,zI] at h
  obtain ⟨ti,ht,p,hp,q,hq,h⟩:=h
  split at h
  .rename_i kt et hti
   simp only [zI,zM] at h
   obtain ⟨ki,hk,ei,he,r,hr,h⟩:=h
   have:=zdn hs e ht hti hk he ho hr hp hq
   cases r with
   | none=>cases h;exact this
   | some y=>cases h;exact this
  .cases h
 .
  rename_i t m k x ho
  simp only [qo,zI] at h
  obtain ⟨ti,ht,p,hp,q,hq,u,hu,h⟩:=h
  split at h
  .rename_i kt et nm hti
   simp only [zI] at h
   obtain ⟨ki,hk,h⟩:=h
   split at h
   .rename_i es ck hom
    simp only [zI] at h
    obtain ⟨r,hr,h⟩:=h
    split at h
    .simp only [zM,zP] at h
     obtain ⟨H1,h1,rfl,rfl⟩:=h
     exact qhm hs e ht hti hk (.inl ho) hp hq hu hom hr h1
    .simp only [zM,zP] at h
     obtain ⟨H1,h1,rfl,rfl⟩:=h
     exact qhm hs e ht hti hk (.inl ho) hp hq hu hom hr h1
   .cases h
  .cases h
 .
  rename_i t m k x ho
  simp only [qo,zI] at h
  obtain ⟨ti,ht,p,hp,q,hq,u,hu,h⟩:=h
  split at h
  .rename_i kt et nm hti
   simp only [zI] at h
   obtain ⟨ki,hk,h⟩:=h
   split at h
   .rename_i es ck hom
    simp only [zI] at h
    obtain ⟨r,hr,h⟩:=h
    split at h
    .simp only [zM,zP] at h
     obtain ⟨H1,h1,rfl,rfl⟩:=h
     exact qhm hs e ht hti hk (.inr ho) hp hq hu hom hr h1
    .simp only [zM,zP] at h
     obtain ⟨H1,h1,rfl,rfl⟩:=h
     exact qhm hs e ht hti hk (.inr ho) hp hq hu hom hr h1
   .cases h
  .cases h
 .
  rename_i x xt t ok ho
  simp only [qo,zI] at h
  obtain ⟨ti,ht,h⟩:=h
  split at h
  .cases h
  .rename_i hni
   simp only [zI,zM,zP] at h
   obtain ⟨p,hp,v,h1,rfl,rfl⟩:=h
   exact qx6 hs e ht (fun ms hm=>hni ms hm) ho hp h1
 .
  rename_i x ho
  simp only [zI] at h
  obtain ⟨p,hp,h⟩:=h
  split at h
  .cases h
   have h1:=qp hs e hp
   have h1':=h1
   simp only [Rel] at h1'
   obtain ⟨y,h2,h3⟩:=h1'
   refine ⟨rfl,a.eval x,?_,h1⟩
   simp only [execOp,ho,Sem.run_bind,h2,Instr.panic,goPanic]
   rfl
  .cases h
 .
  rename_i t x ho
  simp only [qo,zI] at h
  obtain ⟨ti,ht,p,hp,h⟩:=h
  split at h
  .rename_i s hti
   cases h
   exact zhw hs e ht hti ho hp
  .cases h
 .
  rename_i x ho
  simp only [zI] at h
  obtain ⟨p,hp,h⟩:=h
  split at h
  .split at h
   .rename_i s pos hom
    exact zl0 hs e ho hp hom h
   .cases h
  .cases h
 .cases h
end
end Go.E2
/- E2: CODE: what E2 makes of it the model makes of it. -/
namespace Go.E2
open Go
def qdc (F:Fence):Prop:=(∀ f,F.fn f)/\F.depth=none/\F.alive=false
theorem qdc.inRound {F:Fence} (h:qdc F) (l:Nat):qdc (F.inRound l):=h
def qt0 (G:qi) (w:World) (p:PE) (q:PanicEntry):Prop:=Rel G w p.v q.v/\p.recovered=q.recovered/\p.goexit=q.goexit
def qk2 (G:qi) (w:World):List PE->List PanicEntry->Prop
 | [],l=>l=[]
 | p::ps,l=>∃ q qs,l=q::qs/\qt0 G w p q/\qk2 G w ps qs
def qm8 (G:qi) (w:World):Ex->Exit->Prop
 | .normal,e=>e=.normal
 | .exit id,e=>e=.exit id
 | .goto l,e=>e=.goto l
 | .ret,e=>e=.ret
 | .panic ch,e=>∃ rch,e=.panic rch/\qk2 G w ch rch
def qou (H:Heap) (G:qi) (w:World) (x:Ex×Fr×Heap):Exit->Act->World->Prop:=
 fun e a' w'=>∃ G',Step H G w x.2.2 G' w'/\SimFr G' w' x.2.1 a'/\qm8 G' w' x.1 e
def qhy (G:qi) (w:World):CR->Ending->Prop
 | .ret v,e=>∃ x,e=.returned x/\Rel G w v x
 | .panic ch,e=>∃ rch,e=.panicked rch/\qk2 G w ch rch
def qdi (P:Program) (c:Call):Prop:=
 ∀ tgt args H r H',c tgt args H=some (r,H')->∀ G w t rargs,Sim H G w->ze0 G w tgt args t rargs->
  (∃ x w' G' v,(invoke t rargs).run P w=.ok (.value x) w'/\Step H G w H' G' w'/\r=.ret v/\Rel G' w' v x)∨
  (∃ f rargs',(invoke t rargs).run P w=.ok (.enter f rargs') w/\∀ F n,qdc F->CallsIn F n P f rargs' w fun e w'=>∃ G',Step H G w H' G' w'/\qhy G' w' r e)∨
  (∃ l f tmps assign body,(invoke t rargs).run P w=.ok (.round l f tmps assign body) w/\∀ F n,qdc F->RoundIn F n P l f tmps assign body w fun e w'=>∃ G',Step H G w H' G' w'/\qhy G' w' r e)
section
variable {P:Program} {sp:Nat->Option (List V->Heap->Option (CR×Heap))} {call:Call} {H:Heap} {G:qi} {w:World} {fr:Fr} {a:Act} {F:Fence} {n:Nat}
theorem zlo {v:V} {b:Bool} (h:Rel G w v (.bool b)) (hn:∀ b',v≠.bool b'):False:=by
 cases v<;>simp only [Rel,reduceCtorEq,false_and,and_false,exists_false] at h
 all_goals first
  | exact hn _ rfl
  | (split at h<;>simp at h;done)
  | grind
theorem qgg {o:Oper} {all:Array Oper} (e:SimFr G w fr a) {b:Bool} (h:qby o all fr=some b):Region.wanted o (yielded all a.tmps)=b:=by
 unfold Region.wanted
 unfold qby at h
 cases hg:o.guard with
 | none=>rw [hg] at h;simp at h;simp [h]
 | some g=>
  obtain ⟨j,want⟩:=g
  rw [hg] at h
  simp only at h ⊢
  cases hd:(all[j]?).bind (·.dst) with
  | none=>rw [hd] at h;simp at h;simp [yielded,hd,h]
  | some t=>
   rw [hd] at h
   simp only at h
   split at h
   .rename_i b' hv
    have ht:=qjw e hv
    simp only [yielded,hd,zB]
    simp only [Rel] at ht
    have hsome:a.tmps[t]? = some (.bool b'):=by
     cases hq:a.tmps[t]? with
     | none=>rw [Array.getD_eq_getD_getElem?,hq] at ht;simp [undef] at ht
     | some y=>rw [Array.getD_eq_getD_getElem?,hq] at ht;simpa using ht
    simpa [hsome] using h
   .rename_i v hnb hv
    have ht:=qjw e hv
    simp only [yielded,hd,zB]
    cases h
    have hno:∀ b,a.tmps[t]?≠some (.bool b):=by
     intro b hq
     have hx:a.tmps.getD t undef=.bool b:=by rw [Array.getD_eq_getD_getElem?,hq];rfl
     rw [hx] at ht
     exact zlo ht (fun b' hb'=>hnb b' (by rw [hb']))
    cases hq:a.tmps[t]? with
    | none=>simp
    | some y=>
     cases y<;>first
      | (exact absurd hq (hno _))
      | simp
   .cases h
theorem qgp (hF:qdc F) {o:Oper}:∀ f,o.about P w a.eval=some f->F.fn f:=fun f _=>hF.1 f
theorem qma (hc:qdi P call) (hF:qdc F) (hs:Sim H G w) (e:SimFr G w fr a) {all:Array Oper} {o:Oper} {r:CR} {H':Heap} (h:qd7 (qo P sp) call all o fr H=some (r,H'))
  {K:Act->World->Prop} {Q:Exit->Act->World->Prop} (hK:∀ v y w' G',r=.ret v->Step H G w H' G' w'->Rel G' w' v y->K (a.put o.dst y) w')
  (hQ:∀ w' G' ch rch,r=.panic ch->Step H G w H' G' w'->qk2 G' w' ch rch->Q (.panic rch) a w') :
  if Region.wanted o (yielded all a.tmps) then o.wpIn F n P a w K Q else (∀ f,o.about P w a.eval=some f->F.fn f)/\K (a.put o.dst undef) w:=by
 unfold qd7 at h
 split at h
 .rename_i hw
  rw [qgg e hw,zT rfl]
  have hnd:∀ c,zz (qo P sp) o fr H≠none->o.op≠.defer c:=by
   intro c hne ho
   apply hne
   simp only [zz,ho]
  split at h
  .rename_i v H1 hev
   cases h
   obtain ⟨y,w',G',h1,h2,h3⟩:=qf3 hs e hev
   refine ⟨qgp hF,?_⟩
   rw [Oper.semAt_eq _ _ _ (fun c=>hnd c (by rw [hev];simp)),h1]
   exact hK _ _ _ _ rfl h2 h3
  .rename_i H1 hev
   cases h
   obtain ⟨w',G',h1,h2⟩:=qf3 hs e hev
   refine ⟨qgp hF,?_⟩
   rw [Oper.semAt_eq _ _ _ (fun c=>hnd c (by rw [hev];simp)),h1]
   exact hK _ _ _ _ rfl h2 qhu
  .rename_i tgt args H1 hev
   obtain ⟨rfl,t,rargs,h1,h2⟩:=qf3 hs e hev
   refine ⟨qgp hF,?_⟩
   rw [Oper.semAt_eq _ _ _ (fun c=>hnd c (by rw [hev];simp)),h1]
   have hd:F.depth.isSome=true->1<=n:=by rw [hF.2.1];simp
   rcases hc _ _ _ _ _ h _ _ _ _ hs h2 with ⟨y,w',G',v',r1,r2,r3,r4⟩ | ⟨f,rargs',r1,r2⟩ | ⟨l,f,tmps,assign,body,r1,r2⟩
   .subst r3
    rw [r1]
    exact hK _ _ _ _ rfl r2 r4
   .rw [r1]
    refine ⟨hd,(r2 F (n-1) hF).mono fun en w' hen=>?_⟩
    obtain ⟨G',s1,s2⟩:=hen
    cases r with
    | ret v=>obtain ⟨y,rfl,s2⟩:=s2;exact hK _ _ _ _ rfl s1 s2
    | panic ch=>obtain ⟨rch,rfl,s2⟩:=s2;exact hQ _ _ _ _ rfl s1 s2
   .rw [r1]
    refine ⟨hd,(r2 F (n-1) hF).mono fun en w' hen=>?_⟩
    obtain ⟨G',s1,s2⟩:=hen
    cases r with
    | ret v=>obtain ⟨y,rfl,s2⟩:=s2;exact hK _ _ _ _ rfl s1 s2
    | panic ch=>obtain ⟨rch,rfl,s2⟩:=s2;exact hQ _ _ _ _ rfl s1 s2
  .rename_i v H1 hev
   cases h
   obtain ⟨rfl,y,h1,h2⟩:=qf3 hs e hev
   refine ⟨qgp hF,?_⟩
   rw [Oper.semAt_eq _ _ _ (fun c=>hnd c (by rw [hev];simp)),h1]
   refine hQ w G _ _ rfl (Step.refl hs) ?_
   simp only [qk2,qt0]
   exact ⟨_,_,rfl,⟨h2,rfl,rfl⟩,rfl⟩
  .cases h
 .rename_i hw
  rw [qgg e hw]
  simp only [Bool.false_eq_true,if_false]
  cases h
  exact ⟨qgp hF,hK _ _ _ _ rfl (Step.refl hs) qhu⟩
 .cases h
theorem qou.trans {H':Heap} {G':qi} {w':World} (h:Step H G w H' G' w') {x:Ex×Fr×Heap} {ex:Exit} {a':Act} {w'':World} (hp:qou H' G' w' x ex a' w''):qou H G w x ex a' w'':=by
 obtain ⟨G'',s1,s2,s3⟩:=hp
 exact ⟨G'',h.trans s1,s2,s3⟩
theorem q37 (hs:Sim H G w) (e:SimFr G w fr a) {c:Go.Call} {d:D} (h:q7r fr H c=some d) (ty:TypeId):∃ rd,(resolve a.eval c ty).run P w=.ok rd w/\qtz G w d rd:=by
 unfold q7r at h
 split at h
 .rename_i f hc
  simp only [zI] at h
  obtain ⟨args,hargs,fv,hf,h⟩:=h
  split at h
  .rename_i g first captured
   cases h
   have h1:=qey hs e hargs
   have h2:=qp hs e hf
   simp only [Rel] at h2
   obtain ⟨fn',ra,rc,h3,h4,h5,h6⟩:=h2
   simp only [qgo] at h4
   subst h4
   refine ⟨{target:=.fn (.func g) rc,args:=ra++c.args.map a.eval},?_,.func g,rc,rfl,rfl,h6,?_⟩
   .simp [resolve,hc,h3,Deferred.ofValue]
   .rw [Array.toList_append]
    exact h5.append (by simpa using h1)
  .cases h
 .cases h
theorem qhq (hc:qdi P call) (hF:qdc F) {nd:Bool} (hnd:nd=true->F.round=none) {all:Array Oper}:∀ (l:List Oper) (H:Heap) (G:qi) (w:World) (fr:Fr) (a:Act) (x:Ex×Fr×Heap) (Q:Exit->Act->World->Prop),Sim H G w->SimFr G w fr a->
  qdp (qo P sp) call nd all l fr H=some x->(∀ e a' w',qou H G w x e a' w'->Q e a' w')->wpListIn F n P all Q l a w
 | [],H,G,w,fr,a,x,Q,hs,e,h,hQ=>by
  simp only [qdp,zS] at h
  subst h
  exact hQ _ _ _ ⟨G,Step.refl hs,e,rfl⟩
 | o::l,H,G,w,fr,a,x,Q,hs,e,h,hQ=>by
  simp only [qdp] at h
  split at h
  .rename_i c ho
   simp only [wpListIn]
   split at h
   .rename_i hw
    rw [qgg e hw,zT rfl]
    cases nd with
    | false=>simp at h
    | true=>
     simp only [zO,zI] at h
     obtain ⟨d,hd,h⟩:=h
     obtain ⟨rd,r1,r2⟩:=q37 (P:=P) hs e hd o.type
     refine ⟨qgp hF,?_⟩
     have hex:(o.semAt F.round a.eval).run P w=.ok (.defer rd) w:=by
      rw [hnd rfl,Oper.semAt_none]
      simp only [execOp,ho,Sem.run_bind,r1,Result.andThen_ok,Sem.run_pure]
     rw [hex,Oper.uponIn_defer]
     have e':SimFr G w (fr.push d) {a with defers:=rd::a.defers}:=by
      obtain ⟨t,k,ds⟩:=fr
      exact ⟨e.tmps,e.n,by simp only [Fr.push,j8];exact ⟨rd,a.defers,rfl,e.dfr,r2⟩⟩
     exact qhq hc hF hnd l H G w _ _ x Q hs (e'.put _ qhu) h hQ
   .rename_i hw
    rw [qgg e hw]
    simp only [Bool.false_eq_true,if_false]
    exact ⟨qgp hF,qhq hc hF hnd l H G w _ _ x Q hs (e.put _ qhu) h hQ⟩
   .cases h
  .split at h
   .rename_i v H' h1
    refine qma hc hF hs e h1 (fun v' y w' G' hv s1 s2=>?_) (fun w' G' ch rch hx=>by cases hx)
    cases hv
    exact qhq hc hF hnd l H' G' w' _ _ x Q s1.sim ((e.ext s1.ext).put _ s2) h (fun e a'' w'' hp=>hQ _ _ _ (hp.trans s1))
   .rename_i ch H' h1
    cases h
    refine qma hc hF hs e h1 (fun v' y w' G' hv=>by cases hv) (fun w' G' ch' rch hx s1 s2=>?_)
    cases hx
    exact hQ _ _ _ ⟨G',s1,e.ext s1.ext,⟨rch,rfl,s2⟩⟩
   .cases h
def qqn (P:Program) (sp:Nat->Option (List V->Heap->Option (CR×Heap))) (call:Call):Prop:=
 ∀ (ops:Array Oper) (fr:Fr) (H:Heap) (fr':Fr) (H':Heap),qb7 (qo P sp) call ops (Region.before ops) 0 ops.toList [] fr H=some (fr',H')->qu2 ops=true->
  ∀ (G:qi) (w:World) (a:Act) (F:Fence) (n:Nat) (id:Nat) (Q:Exit->Act->World->Prop),qdc F->Sim H G w->SimFr G w fr a->(∀ e a' w',qou H G w (.normal,fr',H') e a' w'->Q e a' w')->(Code.region id ops true).wpIn F n P Q a w
def qhz (G:qi):Option Nat->Option Nat->Prop
 | none,r=>r=none
 | some l,r=>∃ b sh n,G l 0=some (b,sh,n)/\r=some b
theorem qhz.sub {G G':qi} (h:∀ nm g x,G nm g=some x->G' nm g=some x) {r r':Option Nat} (e:qhz G r r'):qhz G' r r':=by
 cases r with
 | none=>exact e
 | some l=>obtain ⟨b,sh,n,e1,e2⟩:=e;exact ⟨b,sh,n,h _ _ _ e1,e2⟩
theorem qfa {b:Frame} {k:List Item} {cs:List Frame} {c:Code}:step P (lone (b.atR a (.code (.scope c)::k)) cs w)=.next (lone (b.atR a (.code c::.inScope c::k)) cs w):=
 step_lone_go (by simp [stepG,stepG.exec,Frame.atR])
theorem qyd {b:Frame} {k:List Item} {cs:List Frame} {c:Code}:step P (lone (b.atR a (.inScope c::k)) cs w)=.next (lone (b.atR a k) cs w):=
 step_lone_go (by simp [stepG,stepG.exec,Frame.atR])
def noGoto (Q:Exit->Act->World->Prop):Exit->Act->World->Prop
 | .goto _,_,_=>False
 | e,a,w=>Q e a w
theorem q89 {c:Code} {Q:Exit->Act->World->Prop} (h:c.wpIn F n P (noGoto Q) a w):(Code.scope c).wpIn F n P Q a w:=by
 intro b k cs hro hb hr
 have h0:(lone (b.atR a (.code (.scope c)::k)) cs w).fenced P F:=fenced_calm hb hr rfl
 obtain ⟨e,a₁,w₁,hq,harr⟩:=h b (.inScope c::k) cs hro hb hr
 cases e with
 | normal=>exact ⟨.normal,a₁,w₁,hq,.head h0 qfa (StepsIn.trans harr (.one (fenced_calm hb hr rfl) qyd))⟩
 | exit id=>
  refine ⟨.exit id,a₁,w₁,hq,fun k' hk=>.head h0 qfa (harr.1 k' (by simp [exitTo,hk])),fun hr' hk=>?_⟩
  obtain ⟨k₁,h1,h2⟩:=harr.2 hr' (by simp [exitTo,hk])
  exact ⟨k₁,h1,.head h0 qfa h2⟩
 | goto l=>exact hq.elim
 | ret=>exact ⟨.ret,a₁,w₁,hq,.of_steps (.one h0 qfa) harr⟩
 | panic ch=>exact ⟨.panic ch,a₁,w₁,hq,.of_steps (.one h0 qfa) harr⟩
 | outgrown=>exact ⟨.outgrown,a₁,w₁,hq,.of_steps (b:=b) (k:=k) (cs:=cs) (e:=.outgrown) (.one h0 qfa) harr⟩
theorem j8.append {ds:List Dfr}:∀ {l:List Deferred} {ds':List Dfr} {l':List Deferred},j8 G w ds l->j8 G w ds' l'->j8 G w (ds++ds') (l++l'):=by
 induction ds with
 | nil=>intro l ds' l' h h';simp only [j8] at h;subst h;exact h'
 | cons d ds ih=>
  intro l ds' l' h h'
  cases d with
  | mark nm=>
   simp only [j8] at h
   obtain ⟨x,xs,rfl,h1,h2⟩:=h
   simp only [List.cons_append,j8]
   exact ⟨x,xs++l',rfl,ih h1 h',h2⟩
  | call d=>
   simp only [j8] at h
   obtain ⟨x,xs,rfl,h1,h2⟩:=h
   simp only [List.cons_append,j8]
   exact ⟨x,xs++l',rfl,ih h1 h',h2⟩
theorem q2c {b:Nat} {L:Loop} (h:w.heap[b]? = some (.loop L)):w.shape? b=none:=by simp only [World.shape?,h]
theorem run_getObj_loop {b:Nat} {L:Loop} (h:w.heap[b]? = some (.loop L)):(getObj b).run P w=.ok (.loop L) w:=by simp [getObj,Sem.run,h]
theorem run_setObj_loop {b:Nat} {L:Loop} {o:Obj} (h:w.heap[b]? = some (.loop L)):(setObj b o).run P w=.ok () (qjv w b o):=by simp [setObj,Sem.run,h,qjv]
theorem run_getLoop {b:Nat} {L:Loop} (h:w.heap[b]? = some (.loop L)):(Instr.getLoop b).run P w=.ok L w:=by simp [Instr.getLoop,run_getObj_loop h]
theorem Sim.q20 (hs:Sim H G w) {l:Nat} {st st':LoopState} {pend pend':Option Code} {lt:Tree V} {ln:Nat} {lp:List Tmp} {la lb:Code} {ld:Nat} (ho:H.get l=some (.loop st pend lt ln lp la lb ld)) {b sh n:Nat} (hg:G l 0=some (b,sh,n))
  {H':Heap} (hu:H.upd l (.loop st' pend' lt ln lp la lb ld)=some H'):∃ L,w.heap[b]? = some (.loop L)/\L.state=st/\L.pending=pend/\Step H G w H' G (qjv w b (.loop {L with state:=st',pending:=pend'})):=by
 obtain ⟨u1,rfl⟩:=qft hu
 have hob:=hs.obj l _ (hs.lt _ _ _ _ _ hg).2 ho
 obtain ⟨_,L,e1,e2,e3,e4,e5,e6,e7,e7',e8,e9,db,dsh,dn,e10,e11⟩:=hob 0 b sh n hg
 refine ⟨L,e1,e2,e3,hs.setObj _ ho hg u1 _ e1 (q2c e1) (fun hext g' b' sh' m' hg'=>?_)⟩
 obtain ⟨f0,L2,f1,_⟩:=hob g' b' sh' m' hg'
 subst f0
 rw [hg] at hg'
 cases hg'
 exact ⟨rfl,_,qic e1,rfl,rfl,e4,e5,e6,e7,e7',e8,e9.ext hext,db,dsh,dn,e10,e11⟩
theorem qxv (hs:Sim H G w) {l b sh n:Nat} (hg:G l 0=some (b,sh,n)) {ex:Ex} {H':Heap} (h:qef H l=some (ex,H')) :
  ∃ jump w',(Instr.endLoop b).run P w=.ok jump w'/\Step H G w H' G w'/\qd1 jump=some ex:=by
 unfold qef at h
 split at h
 .rename_i st pending lt ln lp la lb ld ho
  split at h
  .cases h
  .rename_i hnb
   simp only [zI,zM,zP] at h
   obtain ⟨H1,hu,ex',hp,rfl,rfl⟩:=h
   obtain ⟨L,e1,e2,e3,st1⟩:=hs.q20 ho hg hu
   subst e3
   refine ⟨L.pending,_,?_,st1,hp⟩
   have hb:¬ (L.state == .busy)=true:=by
    rw [e2]
    cases st<;>first
     | (exact (hnb rfl).elim)
     | decide
   simp only [Instr.endLoop,Sem.run_bind,run_getLoop e1,Result.andThen_ok,hb,Bool.false_eq_true,if_false,run_setObj_loop e1,Sem.run_pure]
 .cases h
theorem q4e (hs:Sim H G w) {round:Option Nat} (hro:qhz G round F.round) {mark:List Dfr} {H1:Heap} {dn:Nat} (h:qqu round H=some (mark,H1,dn)) :
  ∃ G1 w1 rmark db dsh dm,Step H G w H1 G1 w1/\j8 G1 w1 mark rmark/\G1 dn 0=some (db,dsh,dm)/\
   ∀ fn tmps ps assign body,(Instr.enterLoop fn tmps ps assign body F.round).run P w=.ok (w1.heap.size,rmark) (push w1 (.loop {state:=.ready,pending:=none,fn,tmps,params:=ps,assign,body,defers:=db})):=by
 unfold qqu at h
 split at h
 .cases h
  simp only [qhz] at hro
  have st:=hs.new .dfr (.deferred (some [])) 0 (fun _ g b sh n hg=>by
   simp only [qfv] at hg
   by_cases h0:g=0
   .rw [zT ⟨trivial,h0⟩] at hg
    cases hg
    exact ⟨h0,qbm _ _⟩
   .rw [zF (fun x=>h0 x.2),hs.fresh] at hg;cases hg)
  refine ⟨_,_,[{target:=.collected w.heap.size,args:=#[]}],w.heap.size,0,0,st,?_,qc2 _ _ _ _,fun fn tmps ps assign body=>?_⟩
  .simp only [j8]
   exact ⟨_,_,rfl,rfl,w.heap.size,0,0,qc2 _ _ _ _,rfl⟩
  .rw [hro]
   simp only [Instr.enterLoop,Sem.run_bind,run_newObj,Sem.run_pure,Result.andThen_ok]
   rfl
 .rename_i l
  split at h
  .rename_i d ho
   cases h
   obtain ⟨b,sh,n,hg,hr⟩:=hro
   obtain ⟨_,L,e1,e2,e3,e4,e5,e6,e7,e7',e8,e9,db,dsh,dm,e10,e11⟩:=hs.obj l _ (hs.lt _ _ _ _ _ hg).2 ho 0 b sh n hg
   refine ⟨G,w,[],db,dsh,dm,Step.refl hs,by simp only [j8],e10,fun fn tmps ps assign body=>?_⟩
   rw [hr]
   simp only [Instr.enterLoop,Sem.run_bind,run_getLoop e1,run_newObj,Sem.run_pure,Result.andThen_ok,e11]
   rfl
  .cases h
theorem Sim.zln (hs:Sim H G w) {fr:Fr} {a:Act} (e:SimFr G w fr a) {ps:Array Tmp} {assign body:Code} (h1:codeOk assign=true) (h2:codeOk body=true) {dn db dsh dm:Nat} (hd:G dn 0=some (db,dsh,dm)) (fn:FuncId) :
  Step H G w (H.new (.loop .ready none fr.tmps fr.n ps.toList assign body dn)) (qfv G H.next 0 (w.heap.size,0,0)) (push w (.loop {state:=.ready,pending:=none,fn,tmps:=a.tmps,params:=ps,assign,body,defers:=db})):=by
 refine hs.new _ _ 0 (fun hext g b sh n hg=>?_)
 simp only [qfv] at hg
 by_cases h0:g=0
 .rw [zT ⟨trivial,h0⟩] at hg
  cases hg
  exact ⟨h0,_,qbm _ _,rfl,rfl,rfl,rfl,rfl,h1,h2,e.n,e.tmps.ext hext,db,dsh,dm,hext.sub _ _ _ hd,rfl⟩
 .rw [zF (fun x=>h0 x.2),hs.fresh] at hg;cases hg
theorem qn2 {f:Nat} (h:qkb (qo P sp) f=true):∃ fn c,P.funcs[f]? = some fn/\(fn.name == "runtime.NumGoroutine")=false/\fn.body=some c:=by
 simp only [qkb,qo,funcOf] at h
 cases hf:P.funcs[f]? with
 | none=>rw [hf] at h;simp at h
 | some fn=>
  rw [hf] at h
  simp only [cond_eq_ite] at h
  by_cases hn:(fn.name == "runtime.NumGoroutine")=true
  .rw [zT hn] at h;simp at h
  .rw [zF hn] at h
   cases hb:fn.body with
   | none=>rw [hb] at h;simp at h
   | some c=>exact ⟨fn,c,rfl,by simpa using hn,hb⟩
theorem qag {f:FuncId} {fn:Func} {c:Code} (hf:P.funcs[f]? = some fn) (hname:(fn.name == "runtime.NumGoroutine")=false) (hb:fn.body=some c) (args:Array Value) (w:World) :
  (callFunc f args).run P w=.ok (.enter f args) w:=by
 have h1:fn.name≠ "runtime.NumGoroutine" := by simpa using hname
 simp [callFunc,hf,h1,hb]
theorem q04 {fv:V} {l:List V} {g:FuncId} {args:List V} (h:qds fv l=some (.call (.func g) args)):∃ first captured,fv=.func (.func g) first captured/\args=first++l++captured:=by
 unfold qds at h
 split at h
 .simp only [zS,Out.call.injEq,Tgt.func.injEq] at h
  obtain ⟨rfl,rfl⟩:=h
  exact ⟨_,_,rfl,rfl⟩
 .simp at h
 .cases h
theorem qwv {H3 H4:Heap} {G3:qi} {w3:World} (st:Step H G w H3 G3 w3) {l b sh m:Nat} (hg:G3 l 0=some (b,sh,m)) {fr':Fr} {a':Act} (hfr:SimFr G3 w3 fr' a') {ex:Ex} (hend:qef H3 l=some (ex,H4))
  {Q:Exit->Act->World->Prop} (hQ:∀ e a' w',qou H G w (ex,fr',H4) e a' w'->Q e a' w') :
  ∃ jump w4,(Instr.endLoop b).run P w3=.ok jump w4/\(match jump with
    | none=>Q .normal a' w4
    | some c=>c.wpIn F n P Q a' w4):=by
 obtain ⟨jump,w4,hrun,st4,hp⟩:=qxv (P:=P) st.sim hg hend
 refine ⟨jump,w4,hrun,?_⟩
 have stA:=st.trans st4
 have hfr':=hfr.ext st4.ext
 cases jump with
 | none=>
  simp only [qd1,zS] at hp
  subst hp
  exact hQ _ _ _ ⟨G3,stA,hfr',rfl⟩
 | some c=>
  cases c with
  | ret=>
   simp only [qd1,zS] at hp
   subst hp
   exact wpIn_ret (hQ _ _ _ ⟨G3,stA,hfr',rfl⟩)
  | exit id=>
   simp only [qd1,zS] at hp
   subst hp
   exact wpIn_exit (hQ _ _ _ ⟨G3,stA,hfr',rfl⟩)
  | _=>simp [qd1] at hp
theorem qte (hc:qdi P call) {fn0:FuncId} {fuel:Nat} {f:Operand} {params:Array Tmp} {assign body:Code} (hok:codeOk (.rangeFunc f params assign body)=true) {round:Option Nat} {x:Ex×Fr×Heap} {Q:Exit->Act->World->Prop}
  (hF:qdc F) (hro:qhz G round F.round) (hs:Sim H G w) (e:SimFr G w fr a) (h:zi (qo P sp) call fn0 round fuel (.rangeFunc f params assign body) fr H=some x) (hQ:∀ e a' w',qou H G w x e a' w'->Q e a' w') :
  (Code.rangeFunc f params assign body).wpIn F n P Q a w:=by
 simp only [zi,zI] at h
 obtain ⟨⟨mark,H1,dn⟩,hen,h⟩:=h
 simp only at h
 split at h
 .rename_i g args hcall
  simp only [zI] at hcall
  obtain ⟨fv,hfv,hout⟩:=hcall
  obtain ⟨first,captured,rfl,rfl⟩:=q04 hout
  rw [cond_eq_ite] at h
  split at h
  .rename_i hbody
   obtain ⟨gn,gc,hg1,hg2,hg3⟩:=qn2 hbody
   obtain ⟨G1,w1,rmark,db,dsh,dm,st1,hmark,hdn,henter⟩:=q4e (P:=P) hs hro hen
   have hc1:codeOk assign=true/\codeOk body=true:=by
    simp only [codeOk,zA] at hok
    exact hok
   have hval:=qp hs e hfv
   simp only [Rel] at hval
   obtain ⟨fn',ra,rc,h3,h4,h5,h6⟩:=hval
   simp only [qgo] at h4
   subst h4
   refine wpIn_rangeFunc fun fn _=>?_
   have st2:=st1.sim.zln (e.ext st1.ext) (ps:=params) hc1.1 hc1.2 hdn fn
   have hent:=henter fn a.tmps params assign body
   have hself:qfv G1 H1.next 0 (w1.heap.size,0,0) H1.next 0=some (w1.heap.size,0,0):=qc2 _ _ _ _
   generalize qfv G1 H1.next 0 (w1.heap.size,0,0)=G2 at st2 hself
   generalize push w1 (.loop {state:=.ready,pending:=none,fn,tmps:=a.tmps,params,assign,body,defers:=db})=w2 at st2 hent
   generalize H1.new (.loop .ready none fr.tmps fr.n params.toList assign body dn)=H2 at st2 h
   generalize w1.heap.size=lb at hent hself
   have st12:=st1.trans st2
   obtain ⟨y,hy⟩:∃ y:Value,y=.func (.yield lb) #[] #[]:=⟨_,rfl⟩
   have hyield:Rel G2 w2 (.func (.yield H1.next) [] []) y:=by
    rw [hy]
    simp only [Rel,qgo]
    exact ⟨_,_,_,rfl,⟨_,_,_,hself,rfl⟩,qm.nil,qm.nil⟩
   have hargs:qm G2 w2 (first++[.func (.yield H1.next) [] []]++captured) ((ra++#[y]).toList++rc.toList):=by
    rw [Array.toList_append]
    exact ((h5.ext st12.ext).append (qm.cons hyield qm.nil)).append (h6.ext st12.ext)
   have hinv:(invoke (.fn (.func g) rc) (ra++#[y])).run P w2=.ok (.enter g (ra++#[y]++rc)) w2:=by
    have h0:(invoke (.fn (.func g) rc) (ra++#[y])).run P w2=(callFunc g (ra++#[y]++rc)).run P w2:=rfl
    rw [h0,qag hg1 hg2 hg3]
   have hres:(resolve a.eval (rangeCall f lb) 0).run P w2=.ok (⟨.fn (.func g) rc,ra++#[y]⟩:Deferred) w2:=by
    have hm:(rangeCall f lb).args.map a.eval = #[y]:=by simp [hy,Act.eval]
    have h0:resolve a.eval (rangeCall f lb) 0=Deferred.ofValue (a.eval f) ((rangeCall f lb).args.map a.eval):=rfl
    rw [hm] at h0
    rw [h0,h3]
    simp [Deferred.ofValue]
   refine ⟨lb,rmark,w2,⟨.fn (.func g) rc,ra++#[y]⟩,w2,g,ra++#[y]++rc,w2,hent,hres,fun f' _=>hF.1 f',hinv,by rw [hF.2.1];simp,?_⟩
   have hfr:∀ H3 G3 w3,Step H2 G2 w2 H3 G3 w3->SimFr G3 w3 {fr with defers:=mark++fr.defers} {a with defers:=rmark++a.defers}:=by
    intro H3 G3 w3 st3
    have ef:=(e.ext st12.ext).ext st3.ext
    exact ⟨ef.tmps,ef.n,((hmark.ext st2.ext).ext st3.ext).append ef.dfr⟩
   have fin:∀ r H3,call (.func g) (first++[.func (.yield H1.next) [] []]++captured) H2=some (r,H3)->CallsIn F (n-1) P g (ra++#[y]++rc) w2 fun e w'=>∃ G',Step H2 G2 w2 H3 G' w'/\qhy G' w' r e:=by
    intro r H3 hr
    rcases hc _ _ _ _ _ hr _ _ (.fn (.func g) rc) (ra++#[y]) st2.sim ⟨rc,rfl,hargs⟩ with ⟨y',w',G',v',r1,_⟩ | ⟨f',rargs',r1,r2⟩ | ⟨l',f',t',a',b',r1,_⟩
    .rw [hinv] at r1;cases r1
    .rw [hinv] at r1;cases r1;exact r2 F (n-1) hF
    .rw [hinv] at r1;cases r1
   split at h
   .rename_i v H3 hr
    simp only [zM] at h
    obtain ⟨⟨ex,H4⟩,hend,rfl⟩:=h
    refine (fin _ _ hr).mono fun en w3 hen=>?_
    obtain ⟨G3,st3,se⟩:=hen
    obtain ⟨y',rfl,_⟩:=se
    exact qwv (st12.trans st3) (st3.ext.sub _ _ _ hself) (hfr H3 G3 w3 st3) hend hQ
   .rename_i ch H3 hr
    cases h
    refine (fin _ _ hr).mono fun en w3 hen=>?_
    obtain ⟨G3,st3,se⟩:=hen
    obtain ⟨rch,rfl,hch⟩:=se
    exact hQ _ _ _ ⟨G3,st12.trans st3,hfr H3 G3 w3 st3,rch,rfl,hch⟩
   .cases h
  .cases h
 .cases h
theorem jc (hc:qdi P call) (hd:qqn P sp call) (fn:FuncId) (fuel:Nat):∀ (c:Code) (_:codeOk c=true) (round:Option Nat) (H:Heap) (G:qi) (w:World) (fr:Fr) (a:Act) (x:Ex×Fr×Heap) (F:Fence) (n:Nat) (Q:Exit->Act->World->Prop),
  qdc F->qhz G round F.round->Sim H G w->SimFr G w fr a->zi (qo P sp) call fn round fuel c fr H=some x->(∀ e a' w',qou H G w x e a' w'->Q e a' w')->c.wpIn F n P Q a w
 | .skip,hok,round,H,G,w,fr,a,x,F,n,Q,hF,hro,hs,e,h,hQ=>by
  simp only [zi,zS] at h;subst h
  exact wpIn_skip (hQ _ _ _ ⟨G,Step.refl hs,e,rfl⟩)
 | .label l,hok,round,H,G,w,fr,a,x,F,n,Q,hF,hro,hs,e,h,hQ=>by
  simp only [zi,zS] at h;subst h
  exact wpIn_label (hQ _ _ _ ⟨G,Step.refl hs,e,rfl⟩)
 | .exit id,hok,round,H,G,w,fr,a,x,F,n,Q,hF,hro,hs,e,h,hQ=>by
  simp only [zi,zS] at h;subst h
  exact wpIn_exit (hQ _ _ _ ⟨G,Step.refl hs,e,rfl⟩)
 | .goto l,hok,round,H,G,w,fr,a,x,F,n,Q,hF,hro,hs,e,h,hQ=>by
  simp only [zi,zS] at h;subst h
  exact wpIn_goto (hQ _ _ _ ⟨G,Step.refl hs,e,rfl⟩)
 | .ret,hok,round,H,G,w,fr,a,x,F,n,Q,hF,hro,hs,e,h,hQ=>by
  simp only [zi,zS] at h;subst h
  exact wpIn_ret (hQ _ _ _ ⟨G,Step.refl hs,e,rfl⟩)
 | .seq c d,hok,round,H,G,w,fr,a,x,F,n,Q,hF,hro,hs,e,h,hQ=>by
  simp only [zi] at h
  split at h
  .rename_i fr' H' h1
   refine wpIn_seq (jc hc hd fn fuel c (Bool.and_eq_true_iff.1 hok).1 round H G w fr a _ F n _ hF hro hs e h1 (fun e1 a1 w1 hp=>?_))
   obtain ⟨G',s1,s2,s3⟩:=hp
   cases s3
   exact jc hc hd fn fuel d (Bool.and_eq_true_iff.1 hok).2 round H' G' w1 fr' a1 x F n Q hF (hro.sub s1.ext.sub) s1.sim s2 h (fun e2 a2 w2 hp=>hQ _ _ _ (hp.trans s1))
  .rename_i y hne
   refine wpIn_seq (jc hc hd fn fuel c (Bool.and_eq_true_iff.1 hok).1 round H G w fr a _ F n _ hF hro hs e h (fun e1 a1 w1 hp=>?_))
   obtain ⟨ex,fr',H'⟩:=x
   cases ex with
   | normal=>exact (hne _ _ h).elim
   | _=>
    have hq:=hQ e1 a1 w1 hp
    obtain ⟨G',s1,s2,s3⟩:=hp
    first
     | (cases s3;exact hq)
     | (obtain ⟨rch,rfl,_⟩:=s3;exact hq)
 | .cond c x y,hok,round,H,G,w,fr,a,z,F,n,Q,hF,hro,hs,e,h,hQ=>by
  simp only [zi] at h
  split at h
  .rename_i hb
   have hv:=qp hs e hb
   simp only [Rel] at hv
   exact wpIn_cond hv (jc hc hd fn fuel x (Bool.and_eq_true_iff.1 hok).1 round H G w fr a z F n Q hF hro hs e h hQ)
  .rename_i hb
   have hv:=qp hs e hb
   simp only [Rel] at hv
   exact wpIn_cond hv (jc hc hd fn fuel y (Bool.and_eq_true_iff.1 hok).2 round H G w fr a z F n Q hF hro hs e h hQ)
  .cases h
 | .block id c,hok,round,H,G,w,fr,a,x,F,n,Q,hF,hro,hs,e,h,hQ=>by
  simp only [zi] at h
  split at h
  .rename_i id' fr' H' h1
   refine wpIn_block (jc hc hd fn fuel c hok round H G w fr a _ F n _ hF hro hs e h1 (fun e1 a1 w1 hp=>?_))
   obtain ⟨G',s1,s2,s3⟩:=hp
   cases s3
   simp only [Exit.inBlock]
   rw [cond_eq_ite] at h
   simp only [Nat.beq_eq] at h
   split at h
   .rename_i hid
    cases h
    rw [zT hid]
    exact hQ _ _ _ ⟨G',s1,s2,rfl⟩
   .rename_i hid
    cases h
    rw [zF hid]
    exact hQ _ _ _ ⟨G',s1,s2,rfl⟩
  .rename_i y hne
   refine wpIn_block (jc hc hd fn fuel c hok round H G w fr a _ F n _ hF hro hs e h (fun e1 a1 w1 hp=>?_))
   obtain ⟨ex,fr',H'⟩:=x
   have hq:=hQ e1 a1 w1 hp
   obtain ⟨G',s1,s2,s3⟩:=hp
   cases ex with
   | exit id'=>exact (hne _ _ _ h).elim
   | panic ch=>obtain ⟨rch,rfl,_⟩:=s3;exact hq
   | _=>cases s3;exact hq
 | .scope c,hok,round,H,G,w,fr,a,x,F,n,Q,hF,hro,hs,e,h,hQ=>by
  simp only [zi] at h
  split at h
  .cases h
  .rename_i y hne
   refine q89 (jc hc hd fn fuel c hok round H G w fr a _ F n _ hF hro hs e h (fun e1 a1 w1 hp=>?_))
   obtain ⟨ex,fr',H'⟩:=x
   have hq:=hQ e1 a1 w1 hp
   obtain ⟨G',s1,s2,s3⟩:=hp
   cases ex with
   | goto l=>exact (hne _ _ _ h).elim
   | panic ch=>obtain ⟨rch,rfl,_⟩:=s3;exact hq
   | _=>cases s3;exact hq
 | .loop c,hok,round,H,G,w,fr,a,x,F,n,Q,hF,hro,hs,e,h,hQ=>by
  simp only [zi] at h
  refine wpIn_loop_rounds fuel ?_
  have key:∀ (m:Nat) (H1:Heap) (G1:qi) (w1:World) (fr1:Fr) (a1:Act) (s0:Ex),Step H G w H1 G1 w1->SimFr G1 w1 fr1 a1->
    iter (fun (s:Ex×Fr×Heap)=>match zi (qo P sp) call fn round fuel c s.2.1 s.2.2 with
     | some (.normal,fr',H')=>some (true,.normal,fr',H')
     | some r=>some (false,r)
     | none=>none) m (s0,fr1,H1)=some x->Code.roundsIn F n P c Q m a1 w1:=by
   intro m
   induction m with
   | zero=>intro H1 G1 w1 fr1 a1 s0 _ _ hi;simp [iter] at hi
   | succ m ih=>
    intro H1 G1 w1 fr1 a1 s0 st e1 hi
    simp only [iter] at hi
    rw [roundsIn_succ]
    split at hi
    .rename_i s' hstep
     split at hstep
     .rename_i fr' H' h1
      cases hstep
      refine jc hc hd fn fuel c hok round H1 G1 w1 fr1 a1 _ F n _ hF (hro.sub st.ext.sub) st.sim e1 h1 (fun e2 a2 w2 hp=>?_)
      obtain ⟨G',s1,s2,s3⟩:=hp
      cases s3
      exact ih H' G' w2 fr' a2 _ (st.trans s1) s2 hi
     .cases hstep
     .cases hstep
    .rename_i s' hstep
     cases hi
     split at hstep
     .cases hstep
     .rename_i r hne h1
      cases hstep
      refine jc hc hd fn fuel c hok round H1 G1 w1 fr1 a1 _ F n _ hF (hro.sub st.ext.sub) st.sim e1 h1 (fun e2 a2 w2 hp=>?_)
      have hq:=hQ e2 a2 w2 (hp.trans st)
      obtain ⟨ex,fr',H'⟩:=x
      obtain ⟨G',s1,s2,s3⟩:=hp
      cases ex with
      | normal=>exact (hne _ _ rfl).elim
      | panic ch=>obtain ⟨rch,rfl,_⟩:=s3;exact hq
      | _=>cases s3;exact hq
     .cases hstep
    .cases hi
  exact key fuel H G w fr a .normal (Step.refl hs) e h
 | .region id ops draw,hok,round,H,G,w,fr,a,x,F,n,Q,hF,hro,hs,e,h,hQ=>by
  simp only [zi,cond_eq_ite] at h
  cases draw with
  | false=>
   simp only [Bool.false_eq_true,if_false] at h
   refine wpIn_region_list (qhq hc hF (fun hr=>?_) ops.toList H G w fr a x Q hs e h hQ)
   cases round with
   | none=>exact hro
   | some l=>cases hr
  | true=>
   simp only [if_true,zM] at h
   obtain ⟨⟨fr',H'⟩,h1,rfl⟩:=h
   exact hd ops fr H fr' H' h1 (by simpa [codeOk] using hok) G w a F n id Q hF hs e hQ
 | .rangeFunc f params assign body,hok,round,H,G,w,fr,a,x,F,n,Q,hF,hro,hs,e,h,hQ=>qte hc hok hF hro hs e h hQ
 | .refuse s,hok,round,H,G,w,fr,a,x,F,n,Q,hF,hro,hs,e,h,hQ=>by
  simp [zi] at h
end
end Go.E2
/- E2: OPERATIONS IN ANY ORDER. First the plain law of lists: who is apart from whom may be taken out; then the operations of a region that draws its order as such a list. -/
namespace Go.E2
open Go
theorem put_eq (fr:Fr) (dst:Option Tmp) (v:V):fr.put dst v=match dst with
  | some d=>bif Nat.blt d fr.n then {fr with tmps:=fr.tmps.set d v} else fr
  | none=>fr:=by
 obtain ⟨t,n,ds⟩:=fr
 cases dst<;>rfl
theorem qz4 (fr:Fr) (dst:Option Tmp) (v:V):(fr.put dst v).n=fr.n:=by
 rw [put_eq]
 cases dst with
 | none=>rfl
 | some d=>simp only [cond_eq_ite];split<;>rfl
theorem put_defers (fr:Fr) (dst:Option Tmp) (v:V):(fr.put dst v).defers=fr.defers:=by
 rw [put_eq]
 cases dst with
 | none=>rfl
 | some d=>simp only [cond_eq_ite];split<;>rfl
structure RW (L X:Type) where
 rd:L->Option (X->Prop)
 wr:L->Option X
section
variable {L X:Type}
def RW.app (o:RW L X) (s:L->X):L->X:=fun l=>(o.wr l).getD (s l)
def qwy:List (RW L X)->(L->X)->L->X
 | [],s=>s
 | o::R,s=>qwy R (o.app s)
def RW.qln (o:RW L X) (s:L->X):Prop:=∀ l p,o.rd l=some p->p (s l)
def qqh:List (RW L X)->(L->X)->Prop
 | [],_=>True
 | o::R,s=>o.qln s/\qqh R (o.app s)
def RW.dis (p q:RW L X):Prop:=∀ l,(p.wr l≠none->q.rd l=none/\q.wr l=none)/\(q.wr l≠none->p.rd l=none/\p.wr l=none)
theorem RW.qoy {o:RW L X} {s:L->X} {l:L} (h:o.wr l=none):o.app s l=s l:=by simp [RW.app,h]
theorem RW.dis.comm {p q:RW L X} (h:p.dis q) (s:L->X):p.app (q.app s)=q.app (p.app s):=by
 funext l
 cases hp:p.wr l with
 | none=>rw [RW.qoy hp];simp only [RW.app,hp,Option.getD_none]
 | some x=>
  have hq:=((h l).1 (by rw [hp];simp)).2
  rw [RW.qoy (o:=q) hq];simp only [RW.app,hp,hq,Option.getD_some]
theorem RW.dis.qln {p q:RW L X} (h:p.dis q) {s:L->X}:p.qln (q.app s)↔p.qln s:=by
 constructor
 .intro hf l pr hl
  have hq:q.wr l=none:=by
   cases hq:q.wr l with
   | none=>rfl
   | some x=>have:=((h l).2 (by rw [hq];simp)).1;rw [this] at hl;cases hl
  have:=hf l pr hl
  rwa [RW.qoy hq] at this
 .intro hf l pr hl
  have hq:q.wr l=none:=by
   cases hq:q.wr l with
   | none=>rfl
   | some x=>have:=((h l).2 (by rw [hq];simp)).1;rw [this] at hl;cases hl
  rw [RW.qoy hq]
  exact hf l pr hl
theorem RW.dis.symm {p q:RW L X} (h:p.dis q):q.dis p:=fun l=>⟨(h l).2,(h l).1⟩
theorem ziz:∀ (A:List (RW L X)) (i:RW L X) (B:List (RW L X)) (s:L->X),(∀ a ∈ A,a.dis i)->qqh (A++i::B) s->
  i.qln s/\qqh (A++B) (i.app s)/\qwy (A++B) (i.app s)=qwy (A++i::B) s
 | [],i,B,s,_,h=>⟨h.1,h.2,rfl⟩
 | a::A,i,B,s,hd,h=>by
  obtain ⟨h1,h2⟩:=h
  obtain ⟨e1,e2,e3⟩:=ziz A i B (a.app s) (fun x hx=>hd x (zG _ hx)) h2
  have ha:=hd a zC
  refine ⟨(ha.symm.qln).1 e1,⟨(ha.qln).2 h1,?_⟩,?_⟩
  .rw [ha.comm];exact e2
  .simp only [List.cons_append,qwy]
   rw [ha.comm];exact e3
end
abbrev Loc:=Nat ⊕ Nat
abbrev Val:=Option V×Option O×Nat
structure It where
 i:Nat
 o:Oper
 f:Fr
 K:Heap
 v:V
 K':Heap
 fp:FP
 dels:List Nat
def okN (next:Nat) (dels:List Nat) (n:Nat):Bool:=Nat.blt n next&&!dels.any fun m=>Nat.beq n m
def It.dom (t:It) (nm:Nat):Bool:=
 match t.fp with
 | .none=>false
 | .reads l | .writes l=>(l.any fun m=>Nat.beq nm m)&&okN t.K.next t.dels nm
 | .call | .lone=>okN t.K.next t.dels nm
def It.jn (t:It):Bool:=
 match t.fp with
 | .writes _ | .lone=>true
 | _=>false
def It.rw (all:Array Oper) (t:It):RW Loc Val where
 rd:=fun
  | .inl x=>if x ∈ t.o.looksAt all then some fun y=>t.f.tmps.get x=y.1/\y.2.2<=t.K.next else none
  | .inr nm=>if t.dom nm=true then some fun y=>t.K.get nm=y.2.1/\y.2.2<=t.K.next else none
 wr:=fun
  | .inl x=>if t.o.dst=some x/\x<t.f.n then some (some t.v,none,t.K'.next) else none
  | .inr nm=>if (t.K.next<=nm/\nm<t.K'.next)∨(t.jn=true/\t.dom nm=true) then some (none,t.K'.get nm,t.K'.next) else none
structure ItOk (E:Env) (call:Call) (all:Array Oper) (fr:Fr) (H:Heap) (t:It):Prop where
 run:qd7 E call all t.o t.f t.K=some (.ret t.v,t.K')
 op:all[t.i]? = some t.o
 le:t.K.next<=t.K'.next
 start:H.next<=t.K.next
 ro:H.ro<=t.K.ro
 roN:t.K.ro<=t.K.next
 roM:t.jn=false->t.K.ro=t.K.next
 qy:t.K.qy=H.qy
 dom:∀ nm,nm<t.K.next->t.K.get nm≠none->t.dom nm=true
 looks:∀ x,t.f.tmps.get x≠none->x ∈ t.o.looksAt all
 n:t.f.n=fr.n
 dfr:t.f.defers=fr.defers
 dels:∀ nm ∈ t.dels,nm<t.K.next
def Rep (s:Loc->Val) (fr:Fr) (H:Heap):Prop:=
 (∀ x,(s (.inl x)).1=fr.tmps.get x/\(s (.inl x)).2.2<=H.next)/\∀ nm,nm<H.next->(s (.inr nm)).2.1=H.get nm/\(s (.inr nm)).2.2<=H.next
def zq6 (b:Array Nat) (p q:It):Prop:=(b.getD q.i 0).testBit p.i=true
theorem q2i {next:Nat} {dels:List Nat} {n:Nat} (h:okN next dels n=true):n<next:=by
 simp only [okN,zA,Nat.blt_eq] at h;exact h.1
theorem qkm {next:Nat} {dels:List Nat} {n:Nat} (h:okN next dels n=true):n ∉ dels:=by
 simp only [okN,zA,Bool.not_eq_true',List.any_eq_false,Nat.beq_eq] at h
 intro hm
 exact h.2 n hm rfl
theorem qoa {next:Nat} {dels:List Nat} {n:Nat} (h:n<next) (hd:n ∉ dels):okN next dels n=true:=by
 simp only [okN,zA,Bool.not_eq_true',List.any_eq_false,Nat.beq_eq,Nat.blt_eq]
 refine ⟨h,fun m hm he=>hd (he ▸ hm)⟩
theorem It.qnx {t:It} {nm:Nat} (h:t.dom nm=true):nm<t.K.next/\nm ∉ t.dels:=by
 unfold It.dom at h
 split at h
 .cases h
 .have:=(Bool.and_eq_true_iff.1 h).2;exact ⟨q2i this,qkm this⟩
 .have:=(Bool.and_eq_true_iff.1 h).2;exact ⟨q2i this,qkm this⟩
 .exact ⟨q2i h,qkm h⟩
 .exact ⟨q2i h,qkm h⟩
def q61 (d:Done) (t:It):Prop:=d.i=t.i/\d.fp=t.fp/\d.lo=t.K.next/\d.hi=t.K'.next/\d.dels=t.dels
theorem qyz {p q:It} {d:Done} (hd:q61 d p) (h:qbq d q.dels q.fp=false) {nm:Nat} (hp:p.dom nm=true) (hq:q.dom nm=true):p.jn=false/\q.jn=false:=by
 obtain ⟨_,d2,d3,_,d5⟩:=hd
 have key:∀ (w l:List Nat),(w.any fun n=>l.any fun m=>Nat.beq n m)=false->(w.any fun m=>Nat.beq nm m)=true->(l.any fun m=>Nat.beq nm m)=true->False:=by
  intro w l hcl h1 h2
  obtain ⟨m,hm,he⟩:=List.any_eq_true.1 h1
  rw [Nat.beq_eq] at he
  subst he
  rw [List.any_eq_false] at hcl
  exact hcl nm hm h2
 have out:∀ (l:List Nat),(l.any fun n=>Nat.blt n p.K.next&&!p.dels.any fun m=>Nat.beq n m)=false->(l.any fun m=>Nat.beq nm m)=true->okN p.K.next p.dels nm=true->False:=by
  intro l hl h1 h2
  obtain ⟨m,hm,he⟩:=List.any_eq_true.1 h1
  rw [Nat.beq_eq] at he
  subst he
  rw [List.any_eq_false] at hl
  exact hl nm hm h2
 have ins:∀ (l:List Nat),(l.any fun n=>!q.dels.any fun m=>Nat.beq n m)=false->(l.any fun m=>Nat.beq nm m)=true->okN q.K.next q.dels nm=true->False:=by
  intro l hl h1 h2
  obtain ⟨m,hm,he⟩:=List.any_eq_true.1 h1
  rw [Nat.beq_eq] at he
  subst he
  rw [List.any_eq_false] at hl
  simp only [okN,zA] at h2
  exact hl nm hm h2.2
 unfold It.dom at hp hq
 unfold It.jn
 unfold qbq at h
 rw [d2,d3,d5] at h
 cases hpf:p.fp<;>cases hqf:q.fp<;>simp only [hpf,hqf,zA] at h hp hq ⊢<;>first
  | exact ⟨rfl,rfl⟩
  | (cases h;done)
  | (cases hp;done)
  | (cases hq;done)
  | exact (key _ _ h hp.1 hq.1).elim
  | exact (key _ _ h hq.1 hp.1).elim
  | exact (out _ h hq.1 hp).elim
  | exact (ins _ h hp.1 hq).elim
  | trivial
theorem zn5 {all:Array Oper} {p q:It} {d:Done} (hd:q61 d p) (hap:p.o.apart all q.o=true) (hcl:qbq d q.dels q.fp=false) (hle:p.K'.next<=q.K.next) (hpl:p.K.next<=p.K'.next)
  (hdel:∀ nm,p.K.next<=nm->nm<p.K'.next->nm ∈ q.dels):(p.rw all).dis (q.rw all):=by
 obtain ⟨a1,a2,a3⟩:=Oper.apart_spec hap
 intro l
 cases l with
 | inl x=>
  simp only [It.rw]
  refine ⟨fun h=>?_,fun h=>?_⟩
  .have hd:p.o.dst=some x:=by
    by_cases hx:p.o.dst=some x/\x<p.f.n
    .exact hx.1
    .rw [zF hx] at h;exact (h rfl).elim
   rw [zF (a1 x hd),zF (fun hx=>a2 x hd hx.1)]
   exact ⟨rfl,rfl⟩
  .have hd:q.o.dst=some x:=by
    by_cases hx:q.o.dst=some x/\x<q.f.n
    .exact hx.1
    .rw [zF hx] at h;exact (h rfl).elim
   rw [zF (a3 x hd),zF (fun hx=>a2 x hx.1 hd)]
   exact ⟨rfl,rfl⟩
 | inr nm=>
  simp only [It.rw]
  refine ⟨fun h=>?_,fun h=>?_⟩
  .have hw:(p.K.next<=nm/\nm<p.K'.next)∨(p.jn=true/\p.dom nm=true):=by
    by_cases hx:(p.K.next<=nm/\nm<p.K'.next)∨(p.jn=true/\p.dom nm=true)
    .exact hx
    .rw [zF hx] at h;exact (h rfl).elim
   have hnd:¬ q.dom nm=true:=by
    intro hq
    rcases hw with hw | hw
    .exact (It.qnx hq).2 (hdel nm hw.1 hw.2)
    .have:=(qyz hd hcl hw.2 hq).1;rw [hw.1] at this;cases this
   have hlt:nm<q.K.next:=by
    rcases hw with hw | hw
    .omega
    .have:=(It.qnx hw.2).1;omega
   rw [if_neg hnd, if_neg (by intro hx; rcases hx with hx | hx; · omega
                              .exact hnd hx.2)]
   exact ⟨rfl,rfl⟩
  .have hw:(q.K.next<=nm/\nm<q.K'.next)∨(q.jn=true/\q.dom nm=true):=by
    by_cases hx:(q.K.next<=nm/\nm<q.K'.next)∨(q.jn=true/\q.dom nm=true)
    .exact hx
    .rw [zF hx] at h;exact (h rfl).elim
   have hnd:¬ p.dom nm=true:=by
    intro hp
    rcases hw with hw | hw
    .have:=(It.qnx hp).1;omega
    .have:=(qyz hd hcl hp hw.2).2;rw [hw.1] at this;cases this
   have hnn:¬ (p.K.next<=nm/\nm<p.K'.next):=by
    intro hp
    rcases hw with hw | hw
    .omega
    .exact (It.qnx hw.2).2 (hdel nm hp.1 hp.2)
   rw [if_neg hnd, if_neg (by intro hx; rcases hx with hx | hx; · exact hnn hx
                              .exact hnd hx.2)]
   exact ⟨rfl,rfl⟩
def Rl (b:Array Nat) (all:Array Oper) (p q:It):Prop:=p.i<q.i/\p.K'.next<=q.K.next/\(zq6 b p q∨(p.rw all).dis (q.rw all))
theorem qah (H:Heap) (fp:FP) (dels:List Nat):(zr H fp dels).next=H.next:=by unfold zr;split<;>rfl
theorem q87 (H:Heap) (fp:FP) (dels:List Nat):(zr H fp dels).qy=H.qy:=by unfold zr;split<;>rfl
theorem qmq {l:List Nat} {n:Nat}:(l.any fun m=>Nat.beq n m)=true↔n ∈ l:=by
 rw [List.any_eq_true]
 constructor
 .rintro ⟨m,hm,he⟩;rw [Nat.beq_eq] at he;exact he ▸ hm
 .intro h;exact ⟨n,h,by simp⟩
theorem q0n (H:Heap) (fp:FP) (dels:List Nat) (i:Nat) (o:Oper) (f:Fr) (v:V) (K':Heap) (nm:Nat) (hn:nm<H.next) :
  (zr H fp dels).get nm=if (It.mk i o f (zr H fp dels) v K' fp dels).dom nm=true then H.get nm else none:=by
 unfold It.dom
 simp only [qah]
 cases fp with
 | none=>simp [zr,Heap.get,Tree.get]
 | reads l=>
  simp only [zr,Heap.get,jf,Tree.get]
  by_cases h:nm ∈ l/\okN H.next dels nm=true
  .rw [zT (by rw [List.mem_filter];exact h),zT (by rw [zA];exact ⟨qmq.2 h.1,h.2⟩)]
  .rw [zF (by rw [List.mem_filter];exact h),zF (by rw [zA];exact fun q=>h ⟨qmq.1 q.1,q.2⟩)]
 | writes l=>
  simp only [zr,Heap.get,jf,Tree.get]
  by_cases h:nm ∈ l/\okN H.next dels nm=true
  .rw [zT (by rw [List.mem_filter];exact h),zT (by rw [zA];exact ⟨qmq.2 h.1,h.2⟩)]
  .rw [zF (by rw [List.mem_filter];exact h),zF (by rw [zA];exact fun q=>h ⟨qmq.1 q.1,q.2⟩)]
 | call=>
  simp only [zr,Heap.get,jf,Tree.get]
  by_cases h:nm ∈ dels
  .rw [zT h,zF (fun q=>qkm q h)]
  .rw [zF h,zT (qoa hn h)]
 | lone=>
  simp only [zr,Heap.get,jf,Tree.get]
  by_cases h:nm ∈ dels
  .rw [zT h,zF (fun q=>qkm q h)]
  .rw [zF h,zT (qoa hn h)]
theorem mem_range {a b n:Nat}:n ∈ List.range' a (b-a)↔a<=n/\n<b:=by
 rw [List.mem_range'_1];omega
theorem zc3 (H K':Heap) (fp:FP) (dels:List Nat) (i:Nat) (o:Oper) (f:Fr) (v:V) (nm:Nat) (hn:nm<K'.next) (hd:∀ nm ∈ dels,nm<H.next) :
  (qbc H K' fp dels).get nm=if (H.next<=nm/\nm<K'.next)∨((It.mk i o f (zr H fp dels) v K' fp dels).jn=true/\(It.mk i o f (zr H fp dels) v K' fp dels).dom nm=true) then K'.get nm else H.get nm:=by
 unfold It.dom It.jn
 simp only [qah]
 have base:∀ (q:Prop) [Decidable q],(q↔nm ∈ List.range' H.next (K'.next-H.next))->(kk K'.qa6 (List.range' H.next (K'.next-H.next)) H.qa6).get nm=if q then K'.get nm else H.get nm:=by
  intro q _ hq
  rw [jf]
  by_cases h:q
  .rw [zT h,zT (hq.1 h)];rfl
  .rw [zF h,zF (fun x=>h (hq.2 x))];rfl
 cases fp with
 | none=>exact base _ (by rw [mem_range];simp)
 | reads l=>exact base _ (by rw [mem_range];simp)
 | call=>exact base _ (by rw [mem_range];simp)
 | writes l=>
  simp only [qbc,Heap.get,jf,List.mem_append,mem_range,true_and]
  have:(nm ∈ l.filter (fun n=>Nat.blt n H.next&&!dels.any fun m=>Nat.beq n m))↔((l.any fun m=>Nat.beq nm m)&&okN H.next dels nm)=true:=by
   rw [List.mem_filter]
   exact ⟨fun q=>Bool.and_eq_true_iff.2 ⟨qmq.2 q.1,q.2⟩,fun q=>⟨qmq.1 (Bool.and_eq_true_iff.1 q).1,(Bool.and_eq_true_iff.1 q).2⟩⟩
  by_cases h1:H.next<=nm/\nm<K'.next
  .rw [zT (.inr h1),zT (.inl h1)]
  .by_cases h2:((l.any fun m=>Nat.beq nm m)&&okN H.next dels nm)=true
   .rw [zT (.inl (this.2 h2)),zT (.inr h2)]
   ·rw [if_neg (by rintro (q | q); · exact h2 (this.1 q)
                   ·exact h1 q), if_neg (by rintro (q | q); · exact h1 q
                                            .exact h2 q)]
 | lone=>
  simp only [qbc,Heap.get,jf,true_and]
  by_cases h:nm ∈ dels
  .have:=hd nm h
   rw [if_pos h, if_neg (by rintro (q | q); · omega
                            .exact qkm q h)]
  .rw [zF h]
   by_cases h1:H.next<=nm
   .rw [zT (.inl ⟨h1,hn⟩)]
   .rw [zT (.inr (qoa (by omega) h))]
theorem qnl {E:Env} {call:Call} {all:Array Oper} {b:Array Nat} {fr0:Fr} {H0:Heap}
  (hst:∀ k j p o,all[k]? = some p->all[j]? = some o->k<j->(b.getD j 0).testBit k=false->p.apart all o=true) :
  ∀ (rest:List Oper) (i:Nat) (done:List Done) (prev:List It) (fr:Fr) (H:Heap) (fr':Fr) (H':Heap) (s:Loc->Val),
   qb7 E call all b i rest done fr H=some (fr',H')->(∀ k,rest[k]? = all[i+k]?)->
   (∀ p ∈ prev,∃ d ∈ done,q61 d p)->(∀ d ∈ done,d.hi<=H.next)->(∀ p ∈ prev,p.i<i/\p.K'.next<=H.next/\p.K.next<=p.K'.next/\all[p.i]? = some p.o)->
   fr.n=fr0.n->fr.defers=fr0.defers->H0.next<=H.next->H.ro=H0.ro->H.qy=H0.qy->H.ro<=H.next->Rep s fr H->
   ∃ its:List It,its.map (·.i)=List.range' i rest.length/\(∀ t ∈ its,ItOk E call all fr0 H0 t/\t.K'.next<=H'.next)/\qqh (its.map (It.rw all)) s/\Rep (qwy (its.map (It.rw all)) s) fr' H'/\
    (∀ p ∈ prev,∀ q ∈ its,Rl b all p q)/\its.Pairwise (Rl b all)/\fr'.n=fr0.n/\fr'.defers=fr0.defers/\H'.ro=H0.ro/\H'.qy=H0.qy/\H.next<=H'.next
 | [],i,done,prev,fr,H,fr',H',s,h,hall,hp,hdn,hpv,hn,hdf,hnx,hro,hgl,hrn,hrep=>by
  simp only [qb7,zS,zP] at h
  obtain ⟨rfl,rfl⟩:=h
  exact ⟨[],rfl,by simp,trivial,hrep,by simp,.nil,hn,hdf,hro,hgl,zN _⟩
 | o::rest,i,done,prev,fr,H,fr',H',s,h,hall,hp,hdn,hpv,hn,hdf,hnx,hro,hgl,hrn,hrep=>by
  simp only [qb7,zI] at h
  obtain ⟨wnt,hw,h⟩:=h
  generalize hfp:(bif wnt then (match qf5 E o fr with
   | .call=>bif qrc E all b i then FP.lone else .call
   | x=>x) else .none)=fp at h
  generalize hfree:(done.filter fun d=>!(b.getD i 0).testBit d.i)=free at h
  generalize hdels:free.flatMap Done.names=dels at h
  rw [cond_eq_ite] at h
  split at h
  .cases h
  .rename_i hcl
   split at h
   .rename_i v K' hrun
    rw [cond_eq_ite] at h
    split at h
    .cases h
    .rename_i hle
     have hle:H.next<=K'.next:=by
      rw [Nat.blt_eq] at hle;omega
     have hdl:∀ nm ∈ dels,nm<H.next:=by
      intro nm hm
      rw [<-hdels,List.mem_flatMap] at hm
      obtain ⟨d,hd,hm⟩:=hm
      rw [<-hfree,List.mem_filter] at hd
      have:=hdn d hd.1
      unfold Done.names at hm
      rw [mem_range] at hm
      omega
     obtain ⟨t,ht⟩:∃ t:It,t=⟨i,o,{fr with tmps:=kk fr.tmps (o.looksAt all) .nil},zr H fp dels,v,K',fp,dels⟩:=⟨_,rfl⟩
     have hop:all[i]? = some o:=by have:=hall 0;simpa using this.symm
     have hok:ItOk E call all fr0 H0 t:=by
      subst ht
      refine ⟨hrun,hop,by rw [qah];exact hle,by rw [qah];exact hnx,?_,?_,?_,by rw [q87];exact hgl,fun nm hlt hnm=>?_,fun x hx=>?_,hn,hdf,by rw [qah];exact hdl⟩
      .unfold zr;split<;>simp<;>omega
      .unfold zr;split<;>simp<;>omega
      .unfold It.jn zr
       cases fp<;>simp
      .rw [qah] at hlt
       rw [q0n H fp dels i o {fr with tmps:=kk fr.tmps (o.looksAt all) .nil} v K' nm hlt] at hnm
       by_cases hm:(It.mk i o {fr with tmps:=kk fr.tmps (o.looksAt all) .nil} (zr H fp dels) v K' fp dels).dom nm=true
       .exact hm
       .rw [zF hm] at hnm;exact (hnm rfl).elim
      .rw [jf] at hx
       by_cases hm:x ∈ o.looksAt all
       .exact hm
       .rw [zF hm] at hx;simp [Tree.get] at hx
     have hrw:Rep ((t.rw all).app s) (fr.put o.dst v) (qbc H K' fp dels):=by
      refine ⟨fun x=>?_,fun nm hnm=>?_⟩
      .have hs:=hrep.1 x
       simp only [RW.app,It.rw]
       subst ht
       simp only
       by_cases hx:o.dst=some x/\x<fr.n
       .rw [zT hx]
        simp only [put_eq,hx.1,cond_eq_ite,Nat.blt_eq,hx.2,if_true,Option.getD_some,Tree.km]
        exact ⟨trivial,zN _⟩
       .rw [zF hx,Option.getD_none]
        refine ⟨hs.1.trans ?_,zR hs.2 hle⟩
        rw [put_eq]
        split
        .rename_i d hd
         rw [cond_eq_ite]
         split
         .rename_i hlt
          rw [Nat.blt_eq] at hlt
          simp only [Tree.km]
          rw [zF (fun (q:x=d)=>hx ⟨by rw [hd,q],by rw [q];exact hlt⟩)]
         .rfl
        .rfl
      .have hg:=zc3 H K' fp dels i o {fr with tmps:=kk fr.tmps (o.looksAt all) .nil} v nm hnm hdl
       rw [hg]
       simp only [RW.app,It.rw]
       subst ht
       simp only [qah]
       split
       .exact ⟨rfl,zN _⟩
       .rename_i hx
        have hlt:nm<H.next:=by
         by_cases h1:nm<H.next
         .exact h1
         .exact (hx (.inl ⟨by omega,hnm⟩)).elim
        have hs:=hrep.2 nm hlt
        rw [Option.getD_none]
        exact ⟨hs.1,zR hs.2 hle⟩
     have hfind:(t.rw all).qln s:=by
      intro l p hl
      cases l with
      | inl x=>
       simp only [It.rw] at hl
       split at hl
       .rename_i hx
        cases hl
        have hs:=hrep.1 x
        subst ht
        simp only at hx
        simp only [jf,zT hx,qah]
        exact ⟨hs.1.symm,hs.2⟩
       .cases hl
      | inr nm=>
       simp only [It.rw] at hl
       split at hl
       .rename_i hx
        cases hl
        have hlt:=(It.qnx hx).1
        subst ht
        simp only [qah] at hlt
        have hs:=hrep.2 nm hlt
        rw [q0n H fp dels i o {fr with tmps:=kk fr.tmps (o.looksAt all) .nil} v K' nm hlt,zT hx]
        simp only [qah]
        exact ⟨hs.1.symm,hs.2⟩
       .cases hl
     have hprev:∀ p ∈ prev,Rl b all p t:=by
      intro p hpm
      obtain ⟨a1,a2,a3,a4⟩:=hpv p hpm
      obtain ⟨d,hd,hdo⟩:=hp p hpm
      have hdo':=hdo
      obtain ⟨d1,d2,d3,d4,_⟩:=hdo'
      subst ht
      refine ⟨a1,by rw [qah];exact a2,?_⟩
      by_cases hbit:(b.getD i 0).testBit p.i=true
      .exact .inl hbit
      .right
       have hbit:(b.getD i 0).testBit p.i=false:=by simpa using hbit
       have hdf:d ∈ free:=by
        rw [<-hfree,List.mem_filter]
        exact ⟨hd,by rw [d1,hbit];rfl⟩
       refine zn5 hdo (hst _ _ _ _ a4 hop a1 hbit) ?_ (by rw [qah];exact a2) a3 (fun nm h1 h2=>?_)
       .have:=List.any_eq_false.1 (by simpa using hcl) d hdf
        simpa using this
       .show nm ∈ dels
        rw [<-hdels,List.mem_flatMap]
        exact ⟨d,hdf,by unfold Done.names;rw [mem_range,d3,d4];exact ⟨h1,h2⟩⟩
     obtain ⟨its,e1,e2,e3,e4,e5,e6,e7,e8,e9,e10,e11⟩:=qnl hst rest (i+1) (⟨i,fp,H.next,K'.next,dels⟩::done) (t::prev) (fr.put o.dst v) (qbc H K' fp dels) fr' H' ((t.rw all).app s) h
      (fun k=>by have:=hall (k+1);simpa [Nat.add_assoc,Nat.add_comm 1 k] using this)
      (by
        intro p hpm
        rcases zD.1 hpm with rfl | hpm
        .exact ⟨_,zC,by subst ht;exact ⟨rfl,rfl,by rw [qah],rfl,rfl⟩⟩
        .obtain ⟨d,hd,hdo⟩:=hp p hpm
         exact ⟨d,zG _ hd,hdo⟩)
      (by
        intro d hd
        rcases zD.1 hd with rfl | hd
        .exact zN _
        .exact zR (hdn d hd) hle)
      (by
        intro p hpm
        rcases zD.1 hpm with rfl | hpm
        .subst ht;exact ⟨Nat.lt_succ_self _,zN _,by rw [qah];exact hle,hop⟩
        .obtain ⟨a1,a2,a3,a4⟩:=hpv p hpm
         exact ⟨Nat.lt_succ_of_lt a1,zR a2 hle,a3,a4⟩)
      ((qz4 _ _ _).trans hn) ((put_defers _ _ _).trans hdf)
      (zR hnx hle) hro hgl (zR hrn hle) hrw
     refine ⟨t::its,?_,?_,⟨hfind,e3⟩,e4,?_,?_,e7,e8,e9,e10,zR hle e11⟩
     .simp only [List.map_cons,e1,List.length_cons,List.range'_succ]
      subst ht;rfl
     .intro q hq
      rcases zD.1 hq with rfl | hq
      .refine ⟨hok,?_⟩
       subst ht;exact e11
      .exact e2 q hq
     .intro p hpm q hq
      rcases zD.1 hq with rfl | hq
      .exact hprev p hpm
      .exact e5 p (zG _ hpm) q hq
     .exact List.Pairwise.cons (fun q hq=>e5 t zC q hq) e6
   .cases h
end Go.E2
/- E2: A REGION THAT DRAWS ITS ORDER: what holds between two of its operations, and how one operation keeps it. -/
namespace Go.E2
open Go
def qe8 (G:qi) (B:Nat):qi:=fun nm g=>if nm<B then G nm g else none
theorem ky {G:qi} {B nm g:Nat} {x} (h:qe8 G B nm g=some x):nm<B/\G nm g=some x:=by
 unfold qe8 at h
 by_cases hb:nm<B
 .rw [zT hb] at h;exact ⟨hb,h⟩
 .rw [zF hb] at h;cases h
theorem qcz {G:qi} {B nm g:Nat} {x} (hb:nm<B) (h:G nm g=some x):qe8 G B nm g=some x:=by
 unfold qe8;rw [zT hb];exact h
structure Mid (fr0:Fr) (H0:Heap) (G0:qi) (w0:World) (N:Nat) (R:List It) (s:Loc->Val) (G:qi) (a:Act) (w:World):Prop where
 lt:∀ nm g b sh n,G nm g=some (b,sh,n)->b<w.heap.size
 inj:∀ nm g b sh n nm' g' sh' n',G nm g=some (b,sh,n)->G nm' g'=some (b,sh',n')->nm=nm'/\sh=sh'
 free:∀ t ∈ R,∀ nm g,t.K.next<=nm->nm<t.K'.next->G nm g=none
 top:∀ nm g x,G nm g=some x->nm<N
 tmp:∀ x v,(s (.inl x)).1=some v->Rel (qe8 G (s (.inl x)).2.2) w v (a.tmps.getD x undef)
 obj:∀ nm o,(s (.inr nm)).2.1=some o->nm<N->nm<(s (.inr nm)).2.2/\qc7 (qe8 G (s (.inr nm)).2.2) w nm o
 n:a.tmps.size=fr0.n
 dfr:j8 (qe8 G H0.next) w fr0.defers a.defers
 globs:∀ g o,g<H0.qy->(s (.inr g)).2.1=some o->∃ n,G g 0=some (g,0,n)
 keep:∀ nm,nm<H0.ro->(s (.inr nm)).2.1=H0.get nm
 ext:Ext H0.ro G0 w0 G w
 newG:∀ nm g x,G nm g=some x->nm<H0.ro->G0 nm g=some x
 frame:∀ nm,nm<H0.next->H0.get nm=none->(s (.inr nm)).2.1=none/\(∀ g b sh n,G0 nm g=some (b,sh,n)->w.heap[b]? = w0.heap[b]?)/\∀ g x,G nm g=some x->G0 nm g=some x
section
variable {E:Env} {call:Call} {all:Array Oper} {fr0:Fr} {H0:Heap} {G0:qi} {w0:World} {N:Nat} {s:Loc->Val} {G:qi} {a:Act} {w:World} {t:It}
theorem qwx {B B':Nat} (h:B<=B'):Up (qe8 G B) w (qe8 G B') w:=
 ⟨fun _ _ _ hx=>qcz (zL (ky hx).1 h) (ky hx).2,fun _ _ h=>h⟩
theorem Mid.sim {R:List It} (m:Mid fr0 H0 G0 w0 N R s G a w) (hg0:H0.qy<=H0.ro) (ok:ItOk E call all fr0 H0 t) (hN:t.K'.next<=N) (hf:(t.rw all).qln s) :
  Sim t.K (qe8 G t.K.next) w/\SimFr (qe8 G t.K.next) w t.f a:=by
 have hval:∀ nm,nm<t.K.next->t.K.get nm≠none->(s (.inr nm)).2.1=t.K.get nm/\(s (.inr nm)).2.2<=t.K.next:=by
  intro nm hlt hne
  have hd:=ok.dom nm hlt hne
  have:=hf (.inr nm) (fun y=>t.K.get nm=y.2.1/\y.2.2<=t.K.next) (by simp only [It.rw];rw [zT hd])
  exact ⟨this.1.symm,this.2⟩
 refine ⟨⟨fun nm g b sh n hg=>⟨m.lt _ _ _ _ _ (ky hg).2,(ky hg).1⟩,fun nm g b sh n nm' g' sh' n' h1 h2=>m.inj _ _ _ _ _ _ _ _ _ (ky h1).2 (ky h2).2,fun nm o hlt ho=>?_,ok.roN,?_,fun g o hg ho=>?_⟩,⟨fun x v hx=>?_,by rw [m.n,ok.n],?_⟩⟩
 .obtain ⟨h1,h2⟩:=hval nm hlt (by rw [ho];simp)
  obtain ⟨h3,h4⟩:=m.obj nm o (h1.trans ho) (by have:=ok.le;omega)
  exact h4.up (qwx h2) (fun g x hx=>qcz h3 (ky hx).2) (fun _ _ _ _ _=>rfl)
 .rw [ok.qy];exact zR hg0 ok.ro
 .rw [ok.qy] at hg
  have hlt:g<t.K.next:=by have:=ok.ro;have:=ok.roN;omega
  obtain ⟨h1,h2⟩:=hval g hlt (by rw [ho];simp)
  obtain ⟨n,hn⟩:=m.globs g o hg (h1.trans ho)
  exact ⟨n,qcz hlt hn⟩
 .have hl:=ok.looks x (by rw [hx];simp)
  have:=hf (.inl x) (fun y=>t.f.tmps.get x=y.1/\y.2.2<=t.K.next) (by simp only [It.rw];rw [zT hl])
  exact Rel.up (qwx this.2) (m.tmp x v (this.1.symm.trans hx))
 .rw [ok.dfr]
  exact j8.up (qwx ok.start) m.dfr
def qlv (G G1:qi) (hi:Nat):qi:=fun nm g=>if nm<hi then G1 nm g else G nm g
theorem qcx {G G1:qi} {hi nm g:Nat} (h:nm<hi):qlv G G1 hi nm g=G1 nm g:=by unfold qlv;rw [zT h]
theorem qgt {G G1:qi} {hi nm g:Nat} (h:¬ nm<hi):qlv G G1 hi nm g=G nm g:=by unfold qlv;rw [zF h]
theorem Mid.step {A B:List It} (m:Mid fr0 H0 G0 w0 N (A++t::B) s G a w) (ok:ItOk E call all fr0 H0 t) (hN:t.K'.next<=N) (hf:(t.rw all).qln s)
  (hA:∀ k ∈ A,k.K'.next<=t.K.next/\(k.rw all).dis (t.rw all)) (hB:∀ k ∈ B,t.K'.next<=k.K.next) {G1:qi} {w1:World} (st:Step t.K (qe8 G t.K.next) w t.K' G1 w1)
  {y:Value} (hy:Rel G1 w1 t.v y):Mid fr0 H0 G0 w0 N (A++B) ((t.rw all).app s) (qlv G G1 t.K'.next) (a.put t.o.dst y) w1:=by
 have hle:=ok.le
 have hG1:∀ nm g x,G1 nm g=some x->nm<t.K'.next:=fun nm g x hx=>(st.sim.lt nm g x.1 x.2.1 x.2.2 hx).2
 have hmid:∀ nm g,t.K.next<=nm->nm<t.K'.next->G nm g=none:=m.free t (by simp)
 have hsub:∀ nm g x,G nm g=some x->qlv G G1 t.K'.next nm g=some x:=by
  intro nm g x hx
  by_cases h:nm<t.K'.next
  .rw [qcx h]
   by_cases h':nm<t.K.next
   .exact st.ext.sub _ _ _ (qcz h' hx)
   .rw [hmid nm g (by omega) h] at hx;cases hx
  .rw [qgt h];exact hx
 have hfor:∀ nm g b sh n,¬ nm<t.K.next->G nm g=some (b,sh,n)->w1.heap[b]? = w.heap[b]?/\qg9 G1 b:=by
  intro nm g b sh n hn hg
  refine st.ext.frg b (m.lt _ _ _ _ _ hg) (fun nm' g' sh' n' h'=>?_)
  have:=ky h'
  have:=(m.inj _ _ _ _ _ _ _ _ _ hg this.2).1
  omega
 have hquiet:∀ nm,¬ ((t.K.next<=nm/\nm<t.K'.next)∨(t.jn=true/\t.dom nm=true))->
   (∀ g x,qlv G G1 t.K'.next nm g=some x->G nm g=some x)/\∀ g b sh n,G nm g=some (b,sh,n)->w1.heap[b]? = w.heap[b]?:=by
  intro nm hnw
  by_cases h1:nm<t.K.next
  .have hr:(∀ g x,G1 nm g=some x->qe8 G t.K.next nm g=some x)/\∀ g b sh n,qe8 G t.K.next nm g=some (b,sh,n)->w1.heap[b]? = w.heap[b]?:=by
    cases hmw:t.jn with
    | false=>
     have hro:=ok.roM hmw
     exact ⟨fun g x hx=>st.newG nm g x hx (by omega),fun g b sh n hg=>st.ext.ro nm g b sh n (by omega) hg⟩
    | true=>
     have hnone:t.K.get nm=none:=by
      by_cases hq:t.K.get nm=none
      .exact hq
      .exact (hnw (.inr ⟨hmw,ok.dom nm h1 hq⟩)).elim
     obtain ⟨_,f2,f3⟩:=st.frame nm h1 hnone
     exact ⟨f3,f2⟩
   refine ⟨fun g x hx=>?_,fun g b sh n hg=>hr.2 g b sh n (qcz h1 hg)⟩
   rw [qcx (by omega)] at hx
   exact (ky (hr.1 g x hx)).2
  .have h2:¬ nm<t.K'.next:=fun h2=>hnw (.inl ⟨by omega,h2⟩)
   exact ⟨fun g x hx=>by rw [qgt h2] at hx;exact hx,fun g b sh n hg=>(hfor nm g b sh n h1 hg).1⟩
 have hupB:∀ B,Up (qe8 G B) w (qe8 (qlv G G1 t.K'.next) B) w1:=fun B=>
  ⟨fun nm g x hx=>qcz (ky hx).1 (hsub _ _ _ (ky hx).2),st.ext.shp⟩
 have hupN:Up G1 w1 (qe8 (qlv G G1 t.K'.next) t.K'.next) w1:=
  ⟨fun nm g x hx=>qcz (hG1 _ _ _ hx) (by rw [qcx (hG1 _ _ _ hx)];exact hx),fun _ _ h=>h⟩
 have hback:∀ nm g x,qe8 (qlv G G1 t.K'.next) t.K'.next nm g=some x->G1 nm g=some x:=by
  intro nm g x hx
  have:=ky hx
  rw [qcx this.1] at this
  exact this.2
 have hrd:∀ nm,t.dom nm=true->t.K.get nm=(s (.inr nm)).2.1/\(s (.inr nm)).2.2<=t.K.next:=by
  intro nm hd
  exact hf (.inr nm) (fun y=>t.K.get nm=y.2.1/\y.2.2<=t.K.next) (by simp only [It.rw];rw [zT hd])
 have hwr:∀ nm,(t.K.next<=nm/\nm<t.K'.next)∨(t.jn=true/\t.dom nm=true)->((t.rw all).app s) (.inr nm)=(none,t.K'.get nm,t.K'.next):=by
  intro nm h;simp only [RW.app,It.rw];rw [zT h,Option.getD_some]
 have hnw:∀ nm,¬ ((t.K.next<=nm/\nm<t.K'.next)∨(t.jn=true/\t.dom nm=true))->((t.rw all).app s) (.inr nm)=s (.inr nm):=by
  intro nm h;simp only [RW.app,It.rw];rw [zF h,Option.getD_none]
 refine ⟨fun nm g b sh n hg=>?_,fun nm g b sh n nm' g' sh' n' h1 h2=>?_,fun k hk nm g h1 h2=>?_,fun nm g x hx=>?_,fun x v hx=>?_,fun nm o ho hnN=>?_,?_,?_,fun g o hg ho=>?_,fun nm hn=>?_,?_,fun nm g x hx hn=>?_,fun nm hn h0=>?_⟩
 .
  by_cases h:nm<t.K'.next
  .rw [qcx h] at hg;exact (st.sim.lt _ _ _ _ _ hg).1
  .rw [qgt h] at hg;exact zL (m.lt _ _ _ _ _ hg) st.ext.size
 .
  by_cases h:nm<t.K'.next
  .rw [qcx h] at h1
   by_cases h':nm'<t.K'.next
   .rw [qcx h'] at h2;exact st.sim.inj _ _ _ _ _ _ _ _ _ h1 h2
   .rw [qgt h'] at h2;exact ((hfor nm' g' b sh' n' (by omega) h2).2 _ _ _ _ h1).elim
  .rw [qgt h] at h1
   by_cases h':nm'<t.K'.next
   .rw [qcx h'] at h2;exact ((hfor nm g b sh n (by omega) h1).2 _ _ _ _ h2).elim
   .rw [qgt h'] at h2;exact m.inj _ _ _ _ _ _ _ _ _ h1 h2
 .
  have hkf:G nm g=none:=by
   refine m.free k ?_ nm g h1 h2
   rcases List.mem_append.1 hk with h | h
   .exact List.mem_append.2 (.inl h)
   .exact List.mem_append.2 (.inr (zG _ h))
  have hnot:¬ ((t.K.next<=nm/\nm<t.K'.next)∨(t.jn=true/\t.dom nm=true)):=by
   rcases List.mem_append.1 hk with h | h
   .obtain ⟨q1,q2⟩:=hA k h
    rintro (q | q)
    .omega
    .have:=((q2 (.inr nm)).1 (by simp only [It.rw];rw [zT (.inl ⟨h1,h2⟩)];simp)).2
     simp only [It.rw] at this
     rw [zT (.inr q)] at this
     cases this
   .have q1:=hB k h
    rintro (q | q)
    .omega
    .have:=(It.qnx q.2).1;omega
  cases hq:qlv G G1 t.K'.next nm g with
  | none=>rfl
  | some x=>rw [(hquiet nm hnot).1 g x hq] at hkf;cases hkf
 .
  by_cases h:nm<t.K'.next
  .omega
  .rw [qgt h] at hx;exact m.top _ _ _ hx
 .
  simp only [RW.app,It.rw] at hx ⊢
  by_cases hd:t.o.dst=some x/\x<t.f.n
  .rw [zT hd] at hx ⊢
   simp only [Option.getD_some,zS] at hx ⊢
   subst hx
   have hlt:x<a.tmps.size:=by rw [m.n,<-ok.n];exact hd.2
   have e:(a.put t.o.dst y).tmps.getD x undef=y:=by
    simp only [Act.put,hd.1]
    simp [Array.getElem?_setIfInBounds_self_of_lt hlt]
   rw [e]
   exact Rel.up hupN hy
  .rw [zF hd] at hx ⊢
   simp only [Option.getD_none] at hx ⊢
   have e:(a.put t.o.dst y).tmps.getD x undef=a.tmps.getD x undef:=by
    cases hdst:t.o.dst with
    | none=>rfl
    | some d=>
     simp only [Act.put]
     by_cases hxd:x=d
     .subst hxd
      have:¬ x<a.tmps.size:=by rw [m.n,<-ok.n];exact fun q=>hd ⟨hdst,q⟩
      rw [Array.setIfInBounds_eq_of_size_le (Nat.le_of_not_lt this)]
     .simp [Array.getElem?_setIfInBounds_ne (Ne.symm hxd)]
   rw [e]
   exact Rel.up (hupB _) (m.tmp x v hx)
 .
  by_cases hw:(t.K.next<=nm/\nm<t.K'.next)∨(t.jn=true/\t.dom nm=true)
  .rw [hwr nm hw] at ho ⊢
   have hlt:nm<t.K'.next:=by
    rcases hw with h | h
    .exact h.2
    .have:=(It.qnx h.2).1;omega
   exact ⟨hlt,(st.sim.obj nm o hlt ho).up hupN (fun g x hx=>hback _ _ _ hx) (fun _ _ _ _ _=>rfl)⟩
  .rw [hnw nm hw] at ho ⊢
   obtain ⟨q1,q2⟩:=m.obj nm o ho hnN
   obtain ⟨q3,q4⟩:=hquiet nm hw
   exact ⟨q1,q2.up (hupB _) (fun g x hx=>qcz q1 (q3 g x (ky hx).2)) (fun g b sh n hg=>q4 g b sh n (ky hg).2)⟩
 .have:(a.put t.o.dst y).tmps.size=a.tmps.size:=by
   cases t.o.dst<;>simp [Act.put]
  rw [this];exact m.n
 .have:(a.put t.o.dst y).defers=a.defers:=by
   cases t.o.dst<;>rfl
  rw [this];exact j8.up (hupB _) m.dfr
 .
  by_cases hw:(t.K.next<=g/\g<t.K'.next)∨(t.jn=true/\t.dom g=true)
  .rw [hwr g hw] at ho
   have hgk:g<t.K'.qy:=by rw [st.qy,ok.qy];exact hg
   obtain ⟨n,hn⟩:=st.sim.globs g o hgk ho
   exact ⟨n,by rw [qcx (hG1 _ _ _ hn)];exact hn⟩
  .rw [hnw g hw] at ho
   obtain ⟨n,hn⟩:=m.globs g o hg ho
   exact ⟨n,hsub _ _ _ hn⟩
 .
  have hro:=ok.ro
  have hroN:=ok.roN
  by_cases hw:(t.K.next<=nm/\nm<t.K'.next)∨(t.jn=true/\t.dom nm=true)
  .rw [hwr nm hw]
   simp only
   rw [st.keep nm (by omega)]
   rcases hw with h | h
   .omega
   .rw [(hrd nm h.2).1];exact m.keep nm hn
  .rw [hnw nm hw];exact m.keep nm hn
 .
  have hro:=ok.ro
  have hroN:=ok.roN
  refine m.ext.trans ⟨hsub,fun b hb hfb=>?_,st.ext.size,st.ext.shp,fun nm g b sh n hn hg=>?_,st.ext.out⟩
  .have:=st.ext.frg b hb (fun nm g sh n h=>hfb _ _ _ _ (ky h).2)
   refine ⟨this.1,fun nm g sh n h=>?_⟩
   by_cases hlt:nm<t.K'.next
   .rw [qcx hlt] at h;exact this.2 _ _ _ _ h
   .rw [qgt hlt] at h;exact hfb _ _ _ _ h
  .exact st.ext.ro nm g b sh n (by omega) (qcz (by omega) hg)
 .
  have hro:=ok.ro
  have hroN:=ok.roN
  rw [qcx (by omega)] at hx
  exact m.newG nm g x (ky (st.newG nm g x hx (by omega))).2 hn
 .
  obtain ⟨q1,q2,q3⟩:=m.frame nm hn h0
  have hst:=ok.start
  have hlt:nm<t.K.next:=by omega
  have hnone:t.K.get nm=none:=by
   by_cases hq:t.K.get nm=none
   .exact hq
   .have:=ok.dom nm hlt hq
    rw [(hrd nm this).1,q1] at hq
    exact (hq rfl).elim
  obtain ⟨f1,f2,f3⟩:=st.frame nm hlt hnone
  refine ⟨?_,fun g b sh n hg=>?_,fun g x hx=>?_⟩
  .by_cases hw:(t.K.next<=nm/\nm<t.K'.next)∨(t.jn=true/\t.dom nm=true)
   .rw [hwr nm hw];exact f1
   .rw [hnw nm hw];exact q1
  .exact (f2 g b sh n (qcz hlt (m.ext.sub _ _ _ hg))).trans (q2 g b sh n hg)
  .rw [qcx (by omega)] at hx
   exact q3 g x (ky (f3 g x hx)).2
end
end Go.E2
/- E2: A REGION THAT DRAWS ITS ORDER, whole. -/
namespace Go.E2
open Go
def qqg (acc:Array Nat) (o:Oper):Nat:=o.after.foldl (fun s e=>if Region.binds .any e then s ||| 2 ^ e.on ||| acc.getD e.on 0 else s) 0
theorem qrt (acc:Array Nat) (o:Oper):qqg acc o=o.after.toList.foldl (fun s e=>if Region.binds .any e then s ||| 2 ^ e.on ||| acc.getD e.on 0 else s) 0:=by
 unfold qqg;rw [Array.foldl_toList]
theorem quh (acc:Array Nat) (k:Nat):∀ (l:List Edge) (s:Nat),(l.foldl (fun s e=>if Region.binds .any e then s ||| 2 ^ e.on ||| acc.getD e.on 0 else s) s).testBit k=true->
  s.testBit k=true∨∃ e ∈ l,Region.binds .any e=true/\(k=e.on∨(acc.getD e.on 0).testBit k=true)
 | [],s,h=>.inl h
 | e::l,s,h=>by
  simp only [List.foldl_cons] at h
  rcases quh acc k l _ h with h1 | ⟨e',he,h1⟩
  .by_cases hb:Region.binds .any e=true
   .rw [zT hb,Nat.testBit_or,Nat.testBit_or,Bool.or_eq_true,Bool.or_eq_true] at h1
    rcases h1 with (h1 | h1) | h1
    .exact .inl h1
    .rw [Nat.testBit_two_pow,decide_eq_true_eq] at h1
     exact .inr ⟨e,zC,hb,.inl h1.symm⟩
    .exact .inr ⟨e,zC,hb,.inr h1⟩
   .rw [zF hb] at h1;exact .inl h1
  .exact .inr ⟨e',zG _ he,h1⟩
theorem qn0 (acc acc':Array Nat):∀ (l:List Edge) (s:Nat),(∀ e ∈ l,Region.binds .any e=true->acc.getD e.on 0=acc'.getD e.on 0)->
  l.foldl (fun s e=>if Region.binds .any e then s ||| 2 ^ e.on ||| acc.getD e.on 0 else s) s=l.foldl (fun s e=>if Region.binds .any e then s ||| 2 ^ e.on ||| acc'.getD e.on 0 else s) s
 | [],_,_=>rfl
 | e::l,s,h=>by
  simp only [List.foldl_cons]
  by_cases hb:Region.binds .any e=true
  .rw [h e zC hb]
   exact qn0 acc acc' l _ (fun e' he=>h e' (zG _ he))
  .rw [zF hb,zF hb]
   exact qn0 acc acc' l _ (fun e' he=>h e' (zG _ he))
theorem q0p {acc acc':Array Nat} {o:Oper} (h:∀ e ∈ o.after,Region.binds .any e=true->acc.getD e.on 0=acc'.getD e.on 0):qqg acc o=qqg acc' o:=by
 rw [qrt,qrt]
 exact qn0 _ _ _ _ (fun e he=>h e (Array.mem_toList_iff.1 he))
theorem qr2 {all:Array Oper} (hb:∀ (j:Nat) (o:Oper),all[j]? = some o->∀ e ∈ o.after,Region.binds .any e=true->e.on<j):∀ (l:List Oper) (acc:Array Nat),all.toList.drop acc.size=l->
  (∀ j o,j<acc.size->all[j]? = some o->acc.getD j 0=qqg acc o)->
  ∀ j o,all[j]? = some o->(l.foldl (fun acc o=>acc.push (qqg acc o)) acc).getD j 0=qqg (l.foldl (fun acc o=>acc.push (qqg acc o)) acc) o
 | [],acc,hl,hg,j,o,ho=>by
  have:all.size<=acc.size:=by
   have:=congrArg List.length hl
   simp at this;omega
  have hj:j<all.size:=by
   rw [Array.getElem?_eq_some_iff] at ho;exact ho.1
  exact hg j o (by omega) ho
 | x::l,acc,hl,hg,j,o,ho=>by
  simp only [List.foldl_cons]
  have hx:all[acc.size]? = some x:=by
   have:all.toList[acc.size]? = some x:=by
    have h0:(all.toList.drop acc.size)[0]? = some x:=by rw [hl];rfl
    simpa using h0
   simpa using this
  have hold:∀ j,j<acc.size->(acc.push (qqg acc x)).getD j 0=acc.getD j 0:=by
   intro j hj
   simp [Array.getElem?_push_lt hj,Array.getElem?_eq_getElem hj]
  refine qr2 hb l (acc.push (qqg acc x)) ?_ (fun j o hj ho=>?_) j o ho
  .rw [Array.size_push,<-List.drop_drop (i:=1) (j:=acc.size)]
   rw [hl];rfl
  .rw [Array.size_push] at hj
   have hsame:∀ e ∈ o.after,Region.binds .any e=true->acc.getD e.on 0=(acc.push (qqg acc x)).getD e.on 0:=fun e he hbd=>(hold _ (by have:=hb j o ho e he hbd;omega)).symm
   by_cases hlt:j<acc.size
   .rw [hold j hlt,hg j o hlt ho];exact q0p hsame
   .have hje:j=acc.size:=by omega
    subst hje
    rw [hx] at ho
    cases ho
    have:(acc.push (qqg acc x)).getD acc.size 0=qqg acc x:=by simp
    rw [this];exact q0p hsame
theorem quf {all:Array Oper} (hb:∀ (j:Nat) (o:Oper),all[j]? = some o->∀ e ∈ o.after,Region.binds .any e=true->e.on<j) {j k:Nat} {o:Oper} (ho:all[j]? = some o) (h:((Region.before all).getD j 0).testBit k=true) :
  ∃ e ∈ o.after,Region.binds .any e=true/\(k=e.on∨((Region.before all).getD e.on 0).testBit k=true):=by
 have he:Region.before all=all.toList.foldl (fun acc o=>acc.push (qqg acc o)) #[]:=by
  unfold Region.before
  rw [<-Array.foldl_toList];rfl
 have hg:=qr2 hb all.toList #[] (by simp) (fun j o hj=>by simp at hj) j o ho
 rw [<-he] at hg
 rw [hg,qrt] at h
 rcases quh _ _ _ _ h with h1 | ⟨e,h1,h2⟩
 .simp at h1
 .exact ⟨e,Array.mem_toList_iff.1 h1,h2⟩
section
variable {P:Program} {sp:Nat->Option (List V->Heap->Option (CR×Heap))} {call:Call} {all:Array Oper} {fr0:Fr} {H0:Heap} {G0:qi} {w0:World} {N:Nat} {F:Fence} {n:Nat} {Q:Exit->Act->World->Prop}
theorem qrm {listed:Array Bool} {i:Nat}:i ∈ Region.ready .any all listed↔i<all.size/\listed.getD i true=false/\∃ o,all[i]? = some o/\∀ e ∈ o.after,Region.binds .any e=true->listed.getD e.on false=true:=by
 unfold Region.ready
 rw [List.mem_filter,List.mem_range]
 constructor
 .rintro ⟨h1,h2⟩
  rw [zA,Bool.not_eq_true'] at h2
  obtain ⟨h2,h3⟩:=h2
  refine ⟨h1,h2,?_⟩
  have ho:all[i]? = some all[i]:=Array.getElem?_eq_getElem h1
  refine ⟨_,ho,fun e he hb=>?_⟩
  rw [ho,zH,Option.getD_some,Array.all_eq_true'] at h3
  have:=h3 e he
  rw [hb] at this
  simpa using this
 .rintro ⟨h1,h2,o,ho,h3⟩
  refine ⟨h1,?_⟩
  rw [zA,Bool.not_eq_true']
  refine ⟨h2,?_⟩
  rw [ho,zH,Option.getD_some,Array.all_eq_true']
  intro e he
  by_cases hb:Region.binds .any e=true
  .rw [h3 e he hb];simp
  .simp [hb]
theorem zb6 (hc:qdi P call) (hF:qdc F) (hg0:H0.qy<=H0.ro) (hb:∀ (j:Nat) (o:Oper),all[j]? = some o->∀ e ∈ o.after,Region.binds .any e=true->e.on<j) (sfin:Loc->Val)
  (hQ:∀ G a w,Mid fr0 H0 G0 w0 N [] sfin G a w->Q .normal a w) :
  ∀ (m:Nat) (R:List It) (listed:Array Bool) (s:Loc->Val) (G:qi) (a:Act) (w:World),R.length=m->listed.size=all.size->(∀ i,i<all.size->(listed.getD i true=false↔∃ t ∈ R,t.i=i))->
   (∀ j k,j<all.size->listed.getD j true=true->((Region.before all).getD j 0).testBit k=true->listed.getD k true=true)->
   (∀ t ∈ R,ItOk (qo P sp) call all fr0 H0 t/\t.K'.next<=N)->R.Pairwise (Rl (Region.before all) all)->qqh (R.map (It.rw all)) s->qwy (R.map (It.rw all)) s=sfin->Mid fr0 H0 G0 w0 N R s G a w->
   wpAnyIn F n P .any all Q m listed a w:=by
 intro m
 induction m with
 | zero=>
  intro R listed s G a w hlen hsz hli hdc hok hpw hval hrun hmid
  have hR:R=[]:=List.eq_nil_of_length_eq_zero hlen
  subst hR
  refine ⟨?_,?_⟩
  .rw [List.eq_nil_iff_forall_not_mem]
   intro i hi
   obtain ⟨h1,h2,_⟩:=qrm.1 hi
   obtain ⟨t,ht,_⟩:=(hli i h1).1 h2
   cases ht
  .have:s=sfin:=hrun
   subst this
   exact hQ _ _ _ hmid
 | succ m ih=>
  intro R listed s G a w hlen hsz hli hdc hok hpw hval hrun hmid
  have hlt:∀ t ∈ R,t.i<all.size:=fun t ht=>by
   have:=(hok t ht).1.op
   rw [Array.getElem?_eq_some_iff] at this
   exact this.1
  refine ⟨fun hnil=>?_,fun i hi=>?_⟩
  .exfalso
   obtain ⟨r,R',rfl⟩:∃ r R',R=r::R':=by
    cases R with
    | nil=>simp at hlen
    | cons r R'=>exact ⟨r,R',rfl⟩
   have hr:=hlt r zC
   have hmem:r.i ∈ Region.ready .any all listed:=by
    refine qrm.2 ⟨hr,(hli r.i hr).2 ⟨r,zC,rfl⟩,r.o,(hok r zC).1.op,fun e he hbd=>?_⟩
    have hon:=hb _ _ (hok r zC).1.op e he hbd
    have hnot:¬ listed.getD e.on true=false:=by
     intro hq
     obtain ⟨t,ht,hti⟩:=(hli e.on (by omega)).1 hq
     rcases zD.1 ht with rfl | ht
     .omega
     .have:=((List.pairwise_cons.1 hpw).1 t ht).1;omega
    have hlt':e.on<listed.size:=by omega
    simp only [Array.getD_eq_getD_getElem?,Array.getElem?_eq_getElem hlt',Option.getD_some] at hnot ⊢
    simpa using hnot
   rw [hnil] at hmem
   cases hmem
  .obtain ⟨h1,h2,o,ho,h3⟩:=qrm.1 hi
   obtain ⟨t,ht,hti⟩:=(hli i h1).1 h2
   obtain ⟨A,B,rfl⟩:=List.append_of_mem ht
   obtain ⟨hokt,hN⟩:=hok t ht
   have hop:=hokt.op
   rw [hti,ho] at hop
   cases hop
   rw [List.pairwise_append] at hpw
   obtain ⟨pA,pB,pAB⟩:=hpw
   obtain ⟨pB1,pB2⟩:=List.pairwise_cons.1 pB
   have hA:∀ k ∈ A,k.K'.next<=t.K.next/\(k.rw all).dis (t.rw all):=by
    intro k hk
    obtain ⟨q1,q2,q3⟩:=pAB k hk t zC
    refine ⟨q2,q3.resolve_left (fun hord=>?_)⟩
    unfold zq6 at hord
    rw [hti] at hord
    obtain ⟨e,he,hbind,hor⟩:=quf hb ho hord
    have hl:=h3 e he hbind
    have hon:=hb _ _ ho e he hbind
    have hlt':e.on<listed.size:=by omega
    have hl':listed.getD e.on true=true:=by
     simp only [Array.getD_eq_getD_getElem?,Array.getElem?_eq_getElem hlt',Option.getD_some] at hl ⊢;exact hl
    have hkl:listed.getD k.i true=true:=by
     rcases hor with h | h
     .rw [h];exact hl'
     .exact hdc e.on k.i (by omega) hl' h
    have hkf:=(hli k.i (hlt k (List.mem_append.2 (.inl hk)))).2 ⟨k,List.mem_append.2 (.inl hk),rfl⟩
    rw [hkl] at hkf
    cases hkf
   have hB:∀ k ∈ B,t.K'.next<=k.K.next:=fun k hk=>(pB1 k hk).2.1
   rw [List.map_append,List.map_cons] at hval hrun
   obtain ⟨v1,v2,v3⟩:=ziz (A.map (It.rw all)) (t.rw all) (B.map (It.rw all)) s (fun x hx=>by
    obtain ⟨k,hk,rfl⟩:=List.mem_map.1 hx
    exact (hA k hk).2) hval
   obtain ⟨ms,mf⟩:=hmid.sim hg0 hokt hN v1
   have hmem:∀ k,k ∈ A++B->k ∈ A++t::B:=by
    intro k hk
    rcases List.mem_append.1 hk with h | h
    .exact List.mem_append.2 (.inl h)
    .exact List.mem_append.2 (.inr (zG _ h))
   have hnoti:∀ k ∈ A++B,k.i≠t.i:=by
    intro k hk
    rcases List.mem_append.1 hk with h | h
    .have:=(pAB k h t zC).1;omega
    .have:=(pB1 k h).1;omega
   unfold wpOpIn
   rw [ho]
   refine qma hc hF ms mf hokt.run (fun v y w' G' hv st hy=>?_) (fun w' G' ch rch hx=>by cases hx)
   cases hv
   refine ih (A++B) (listed.setIfInBounds i true) ((t.rw all).app s) _ _ w' (by simp at hlen ⊢;omega) (by simp [hsz]) (fun j hj=>?_) (fun j k hj hjl hbit=>?_) (fun k hk=>hok k (hmem k hk)) ?_ (by rw [List.map_append];exact v2)
    (by rw [List.map_append,v3];exact hrun) (hmid.step hokt hN v1 hA hB st hy)
   .by_cases hji:j=i
    .subst hji
     have:(listed.setIfInBounds j true).getD j true=true:=by simp [Array.getElem?_setIfInBounds_self];split<;>simp
     rw [this]
     refine ⟨fun h=>(Bool.noConfusion h),fun ⟨k,hk,hki⟩=>(hnoti k hk (by omega)).elim⟩
    .have:(listed.setIfInBounds i true).getD j true=listed.getD j true:=by
      simp [Array.getElem?_setIfInBounds_ne (Ne.symm hji)]
     rw [this,hli j hj]
     constructor
     .rintro ⟨k,hk,rfl⟩
      rcases List.mem_append.1 hk with h | h
      .exact ⟨k,List.mem_append.2 (.inl h),rfl⟩
      .rcases zD.1 h with rfl | h
       .exact (hji hti).elim
       .exact ⟨k,List.mem_append.2 (.inr h),rfl⟩
     .rintro ⟨k,hk,rfl⟩
      exact ⟨k,hmem k hk,rfl⟩
   .have hset:∀ x,listed.getD x true=true->(listed.setIfInBounds i true).getD x true=true:=by
     intro x hx
     by_cases hxi:x=i
     .subst hxi;simp [Array.getElem?_setIfInBounds_self];split<;>simp
     .simpa [Array.getElem?_setIfInBounds_ne (Ne.symm hxi)] using hx
    by_cases hji:j=i
    .subst hji
     obtain ⟨e,he,hbind,hor⟩:=quf hb ho hbit
     have hl:=h3 e he hbind
     have hon:=hb _ _ ho e he hbind
     have hlt':e.on<listed.size:=by omega
     have hl':listed.getD e.on true=true:=by
      simp only [Array.getD_eq_getD_getElem?,Array.getElem?_eq_getElem hlt',Option.getD_some] at hl ⊢;exact hl
     rcases hor with h | h
     .rw [h];exact hset _ hl'
     .exact hset _ (hdc e.on k (by omega) hl' h)
    .rw [show (listed.setIfInBounds i true).getD j true=listed.getD j true by simp [Array.getElem?_setIfInBounds_ne (Ne.symm hji)]] at hjl
     exact hset _ (hdc j k hj hjl hbit)
   .exact List.pairwise_append.2 ⟨pA,pB2,fun x hx y hy=>pAB x hx y (zG _ hy)⟩
theorem za6 {l:List Oper} {p:Oper×Nat->Bool} (h:l.zipIdx.all p=true) {i:Nat} {o:Oper} (ho:l[i]? = some o):p (o,i)=true:=
 List.all_eq_true.1 h (o,i) (List.mem_zipIdx_iff_getElem?.2 ho)
theorem q1b (hc:qdi P call) (hm:P.follows .mixedOrders=true):qqn P sp call:=by
 intro ops fr H fr' H' h hst G w a F n id Q hF hs e hQ
 have hstat:∀ j o,ops[j]? = some o->(∀ e ∈ o.after,Region.binds .any e=true->e.on<j)/\∀ k p,ops[k]? = some p->k<j->((Region.before ops).getD j 0).testBit k=false->p.apart ops o=true:=by
  intro j o ho
  have h1:=za6 hst (by simpa using ho:ops.toList[j]? = some o)
  simp only [zA] at h1
  refine ⟨fun e he hbd=>?_,fun k p hp hk hbit=>?_⟩
  .have:=Array.all_eq_true'.1 h1.1.1 e he
   rw [hbd] at this
   simpa using this
  .have h2:=za6 h1.2 (by simpa using hp:ops.toList[k]? = some p)
   simp only [Bool.or_eq_true,Nat.ble_eq,hbit,Bool.false_eq_true,or_false] at h2
   exact h2.resolve_left (by omega)
 have hb:∀ (j:Nat) (o:Oper),ops[j]? = some o->∀ e ∈ o.after,Region.binds .any e=true->e.on<j:=fun j o ho=>(hstat j o ho).1
 obtain ⟨s,hsd⟩:∃ s:Loc->Val,s=fun l=>match l with
  | .inl x=>(fr.tmps.get x,none,H.next)
  | .inr nm=>(none,if nm<H.next then H.get nm else none,H.next):=⟨_,rfl⟩
 have hrep:Rep s fr H:=by
  subst hsd
  exact ⟨fun x=>⟨rfl,zN _⟩,fun nm hnm=>⟨by simp only;rw [zT hnm],zN _⟩⟩
 obtain ⟨its,e1,e2,e3,e4,_,e6,e7,e8,e9,e10,e11⟩:=qnl (fun k j p o hp ho hk hbit=>(hstat j o ho).2 k p hp hk hbit) ops.toList 0 [] [] fr H fr' H' s h (fun k=>by simp) (by simp) (by simp) (by simp) rfl rfl (zN _) rfl rfl hs.ro hrep
 obtain ⟨w1,hw1⟩:∃ w1:World,w1 = {w with drawn:=w.drawn+1}:=⟨_,rfl⟩
 have st0:Step H G w H G w1:=Step.same hs (by rw [hw1]) (by rw [hw1];exact ⟨rfl,rfl⟩)
 have es:=e.ext st0.ext
 refine wpIn_region_any hm ?_
 rw [<-hw1]
 have hlen:its.length=ops.size:=by
  have:=congrArg List.length e1;simpa using this
 have hup:Up G w1 (qe8 G H.next) w1:=⟨fun nm g x hx=>qcz (st0.sim.lt nm g x.1 x.2.1 x.2.2 hx).2 hx,fun _ _ h=>h⟩
 have hmid:Mid fr H G w1 H'.next its s G a w1:=by
  refine ⟨fun nm g b sh n hg=>(st0.sim.lt _ _ _ _ _ hg).1,st0.sim.inj,fun t ht nm g h1 h2=>?_,fun nm g x hx=>?_,fun x v hx=>?_,fun nm o ho _=>?_,es.n,j8.up hup es.dfr,fun g o hg ho=>?_,fun nm hn=>?_,Ext.refl _ _ _,fun _ _ _ h _=>h,fun nm hn h0=>?_⟩
  .cases hq:G nm g with
   | none=>rfl
   | some x=>have:=(st0.sim.lt nm g x.1 x.2.1 x.2.2 hq).2;have:=(e2 t ht).1.start;omega
  .have:=(st0.sim.lt nm g x.1 x.2.1 x.2.2 hx).2;omega
  .subst hsd;exact Rel.up hup (es.tmps x v hx)
  .subst hsd
   simp only at ho ⊢
   by_cases hlt:nm<H.next
   .rw [zT hlt] at ho
    exact ⟨hlt,(st0.sim.obj nm o hlt ho).up hup (fun g x hx=>(ky hx).2) (fun _ _ _ _ _=>rfl)⟩
   .rw [zF hlt] at ho;cases ho
  .subst hsd
   simp only at ho
   have:=hs.qy;have:=hs.ro
   rw [zT (by omega)] at ho
   exact st0.sim.globs g o hg ho
  .subst hsd
   have:=hs.ro
   simp only
   rw [zT (by omega)]
  .subst hsd
   refine ⟨?_,fun _ _ _ _ _=>rfl,fun _ _ h=>h⟩
   simp only
   rw [zT hn]
   exact h0
 refine zb6 hc hF hs.qy hb (qwy (its.map (It.rw ops)) s) (fun G' a' w' m=>?_) ops.size its (Array.replicate ops.size false) s G a w1 hlen (by simp) (fun i hi=>?_) (fun j k hj hjl _=>?_) e2 e6 e3 rfl hmid
 .have hup':∀ B,Up (qe8 G' B) w' G' w':=fun B=>⟨fun nm g x hx=>(ky hx).2,fun _ _ h=>h⟩
  have hroN:=hs.ro
  refine hQ _ _ _ ⟨G',st0.trans ⟨m.ext,⟨fun nm g b sh n hg=>⟨m.lt _ _ _ _ _ hg,m.top _ _ _ hg⟩,m.inj,fun nm o hlt ho=>?_,by rw [e9];exact zR hroN e11,by rw [e9,e10];exact hs.qy,fun g o hg ho=>?_⟩,e11,e9,e10,fun nm hn=>?_,m.newG,fun nm hn h0=>?_⟩,⟨fun x v hx=>?_,by rw [m.n,e7],?_⟩,rfl⟩
  .have hr:=(e4.2 nm hlt).1
   obtain ⟨q1,q2⟩:=m.obj nm o (hr.trans ho) hlt
   exact q2.up (hup' _) (fun g x hx=>qcz q1 hx) (fun _ _ _ _ _=>rfl)
  .rw [e10] at hg
   have:=hs.qy
   have hr:=(e4.2 g (by omega)).1
   exact m.globs g o hg (hr.trans ho)
  .rw [<-(e4.2 nm (by omega)).1];exact m.keep nm hn
  .obtain ⟨q1,q2,q3⟩:=m.frame nm hn h0
   exact ⟨by rw [<-(e4.2 nm (by omega)).1];exact q1,q2,q3⟩
  .exact Rel.up (hup' _) (m.tmp x v ((e4.1 x).1.trans hx))
  .rw [e8];exact j8.up (hup' _) m.dfr
 .have:(Array.replicate ops.size false).getD i true=false:=by simp [hi]
  rw [this]
  refine ⟨fun _=>?_,fun _=>rfl⟩
  have hm:i ∈ its.map (·.i):=by rw [e1,List.mem_range'_1];simp;exact hi
  obtain ⟨t,ht,hti⟩:=List.mem_map.1 hm
  exact ⟨t,ht,hti⟩
 .have:(Array.replicate ops.size false).getD j true=false:=by simp [hj]
  rw [this] at hjl
  cases hjl
end
end Go.E2
/- E2: DEFERRED CALLS: what E2 makes of a function that is deferred, and of what is recovered in it, the model makes of it. -/
namespace Go.E2
open Go
def qfd (G:qi) (w:World):Md->FrameMode->Prop
 | .returning,u=>u=.returning
 | .panicking v,u=>∃ x,u=.panicking [{v:=x,recovered:=false}]/\Rel G w v x
 | .recovered v,u=>∃ x,u=.panicking [{v:=x,recovered:=true}]/\Rel G w v x
theorem qfd.ext {r:Nat} {G G':qi} {w w':World} (h:Ext r G w G' w') {md:Md} {u:FrameMode} (e:qfd G w md u):qfd G' w' md u:=by
 cases md with
 | returning=>exact e
 | panicking v=>obtain ⟨x,e1,e2⟩:=e;exact ⟨x,e1,e2.ext h⟩
 | recovered v=>obtain ⟨x,e1,e2⟩:=e;exact ⟨x,e1,e2.ext h⟩
theorem qfd.settle {G:qi} {w:World} {md:Md} {u:FrameMode} (e:qfd G w md u):qfd G w (q21 md) (Go.settle u):=by
 cases md with
 | returning=>subst e;rfl
 | panicking v=>obtain ⟨x,rfl,e2⟩:=e;exact ⟨x,rfl,e2⟩
 | recovered v=>obtain ⟨x,rfl,e2⟩:=e;rfl
theorem qfd.zhc {G:qi} {w:World} {md:Md} {u:FrameMode} (e:qfd G w md u):u≠.run:=by
 cases md with
 | returning=>subst e;simp
 | panicking v=>obtain ⟨x,rfl,e2⟩:=e;simp
 | recovered v=>obtain ⟨x,rfl,e2⟩:=e;simp
section
variable {P:Program} {sp:Nat->Option (List V->Heap->Option (CR×Heap))} {call:Call} {H:Heap} {G:qi} {w:World} {fr:Fr} {a:Act} {F:Fence} {n:Nat}
def qyk (H:Heap) (G:qi) (w:World) (x:Ex×Md×Fr×Heap) (c₀:Frame) (cs:List Frame):Exit->Act->List Frame->World->Prop:=
 fun e a' cs' w'=>∃ u',cs' = {c₀ with mode:=u'}::cs/\∃ G',Step H G w x.2.2.2 G' w'/\SimFr G' w' x.2.2.1 a'/\qm8 G' w' x.1 e/\qfd G' w' x.2.1 u'
theorem qyk.trans {H':Heap} {G':qi} {w':World} (h:Step H G w H' G' w') {x:Ex×Md×Fr×Heap} {c₀:Frame} {u:FrameMode} {cs:List Frame} {ex:Exit} {a':Act} {cs':List Frame} {w'':World} (hp:qyk H' G' w' x {c₀ with mode:=u} cs ex a' cs' w''):qyk H G w x c₀ cs ex a' cs' w'':=by
 obtain ⟨u',s0,G'',s1,s2,s3,s4⟩:=hp
 exact ⟨u',s0,G'',h.trans s1,s2,s3,s4⟩
theorem q5z {o:Oper} (h:qmn o=true):(execOp a.eval o).run P w=.ok .recover w:=by
 unfold qmn at h
 split at h
 .rename_i c ho
  split at h
  .rename_i hc
   simp only [execOp,ho,resolve,hc,Sem.run_bind,Sem.run_pure,Result.andThen_ok,invoke,builtin]
  .cases h
 .cases h
theorem qb4 (hF:qdc F) {all:Array Oper} {c₀:Frame} {cs:List Frame} {x:Ex×Md×Fr×Heap} {Q:Exit->Act->List Frame->World->Prop}:∀ (l:List Oper) (k:Nat) (_:∀ j,l[j]? = all[k+j]?) (H:Heap) (G:qi) (w:World) (md:Md) (u:FrameMode) (fr:Fr) (a:Act),Sim H G w->SimFr G w fr a->qfd G w md u->
  qho (qo P sp) all l md fr H=some x->(∀ e a' cs' w',qyk H G w x c₀ cs e a' cs' w'->Q e a' cs' w')->wpOpsSIn F n P all Q (List.range' k l.length) a ({c₀ with mode:=u}::cs) w
 | [],k,hl,H,G,w,md,u,fr,a,hs,e,hm,h,hQ=>by
  simp only [qho,zS] at h
  subst h
  exact hQ _ _ _ _ ⟨u,rfl,G,Step.refl hs,e,rfl,hm⟩
 | o::l,k,hl,H,G,w,md,u,fr,a,hs,e,hm,h,hQ=>by
  have h0:all[k]? = some o:=by simpa using (hl 0).symm
  have hl':∀ j,l[j]? = all[k+1+j]?:=fun j=>by have:=hl (j+1);simpa [Nat.add_assoc,Nat.add_comm 1 j] using this
  simp only [qho] at h
  simp only [List.length_cons,List.range'_succ,wpOpsSIn,h0]
  refine ⟨qgp hF,?_⟩
  split at h
  .rename_i hw
   rw [qgg e hw,zT rfl]
   rw [cond_eq_ite] at h
   split at h
   .rename_i hr
    rw [q5z (P:=P) hr]
    cases md with
    | returning=>
     simp only [qfd] at hm
     subst hm
     simp only [recoverD]
     exact qb4 hF l (k+1) hl' H G w .returning .returning _ _ hs (e.put _ (by simp only [Rel])) rfl h hQ
    | recovered v=>
     obtain ⟨y,rfl,hv⟩:=hm
     simp only [recoverD]
     exact qb4 hF l (k+1) hl' H G w (.recovered v) _ _ _ hs (e.put _ (by simp only [Rel])) ⟨y,rfl,hv⟩ h hQ
    | panicking v=>
     obtain ⟨y,rfl,hv⟩:=hm
     simp only [recoverD]
     exact qb4 hF l (k+1) hl' H G w (.recovered v) _ _ _ hs (e.put _ hv) ⟨y,rfl,hv⟩ h hQ
   .split at h
    .rename_i v H' hev
     obtain ⟨y,w',G',h1,h2,h3⟩:=qf3 hs e hev
     rw [h1]
     exact qb4 hF l (k+1) hl' H' G' w' md u _ _ h2.sim ((e.ext h2.ext).put _ h3) (hm.ext h2.ext) h (fun e' a' cs' w'' hp=>hQ _ _ _ _ (hp.trans h2 (u:=u)))
    .rename_i H' hev
     obtain ⟨w',G',h1,h2⟩:=qf3 hs e hev
     rw [h1]
     exact qb4 hF l (k+1) hl' H' G' w' md u _ _ h2.sim ((e.ext h2.ext).put _ qhu) (hm.ext h2.ext) h (fun e' a' cs' w'' hp=>hQ _ _ _ _ (hp.trans h2 (u:=u)))
    .cases h
  .rename_i hw
   rw [qgg e hw]
   simp only [Bool.false_eq_true,if_false]
   exact qb4 hF l (k+1) hl' H G w md u _ _ hs (e.put _ qhu) hm h hQ
  .cases h
theorem jm (hc:qdi P call) (hd:qqn P sp call) (fn:FuncId) (fuel:Nat) (c:Code) (hok:codeOk c=true) (H:Heap) (G:qi) (w:World) (md:Md) (u:FrameMode) (fr:Fr) (a:Act) (x:Ex×Md×Fr×Heap) (F:Fence) (n:Nat) (Q:Exit->Act->List Frame->World->Prop) (c₀:Frame) (cs:List Frame)
  (hF:qdc F) (hro:F.round=none) (hs:Sim H G w) (e:SimFr G w fr a) (hm:qfd G w md u) (h:q1d (qo P sp) call fn fuel c md fr H=some x) (hQ:∀ e a' cs' w',qyk H G w x c₀ cs e a' cs' w'->Q e a' cs' w'):c.wpSIn F n P Q a ({c₀ with mode:=u}::cs) w:=by
 unfold q1d at h
 rw [cond_eq_ite] at h
 split at h
 .split at h
  .rename_i id ops _
   refine wpSIn_region ?_
   have:=qb4 (n:=n) (Q:=Q) hF ops.toList 0 (by simp) H G w md u fr a hs e hm h hQ
   rw [List.range_eq_range',<-Array.length_toList]
   exact this
  .cases h
 .obtain ⟨z,hz,rfl⟩:=zM.1 h
  refine wpSIn_of_wpIn hro ?_
  refine jc hc hd fn fuel c hok none H G w fr a z F n _ hF hro hs e hz (fun ex a' w' hp=>?_)
  obtain ⟨G',s1,s2,s3⟩:=hp
  exact hQ _ _ _ _ ⟨u,rfl,G',s1,s2,s3,hm.ext s1.ext⟩
theorem qc4 (hc:qdi P call) (hd:qqn P sp call) (fn:FuncId) (fuel:Nat):∀ (c:Code) (_:codeOk c=true) (H:Heap) (G:qi) (w:World) (md:Md) (u:FrameMode) (fr:Fr) (a:Act) (x:Ex×Md×Fr×Heap) (F:Fence) (n:Nat) (Q:Exit->Act->List Frame->World->Prop) (c₀:Frame) (cs:List Frame),
  qdc F->F.round=none->Sim H G w->SimFr G w fr a->qfd G w md u->qiw (qo P sp) call fn fuel c md fr H=some x->(∀ e a' cs' w',qyk H G w x c₀ cs e a' cs' w'->Q e a' cs' w')->c.wpSIn F n P Q a ({c₀ with mode:=u}::cs) w
 | .seq c d,hok,H,G,w,md,u,fr,a,x,F,n,Q,c₀,cs,hF,hro,hs,e,hm,h,hQ=>by
  simp only [qiw] at h
  split at h
  .rename_i md' fr' H' h1
   refine wpSIn_seq (qc4 hc hd fn fuel c (Bool.and_eq_true_iff.1 hok).1 H G w md u fr a _ F n _ c₀ cs hF hro hs e hm h1 (fun e1 a1 cs1 w1 hp=>?_))
   obtain ⟨u1,rfl,G',s1,s2,s3,s4⟩:=hp
   cases s3
   exact qc4 hc hd fn fuel d (Bool.and_eq_true_iff.1 hok).2 H' G' w1 md' u1 fr' a1 x F n Q c₀ cs hF hro s1.sim s2 s4 h (fun e2 a2 cs2 w2 hp=>hQ _ _ _ _ (hp.trans s1 (u:=c₀.mode)))
  .rename_i y hne
   refine wpSIn_seq (qc4 hc hd fn fuel c (Bool.and_eq_true_iff.1 hok).1 H G w md u fr a _ F n _ c₀ cs hF hro hs e hm h (fun e1 a1 cs1 w1 hp=>?_))
   obtain ⟨ex,md',fr',H'⟩:=x
   cases ex with
   | normal=>exact (hne _ _ _ h).elim
   | _=>
    have hq:=hQ e1 a1 cs1 w1 hp
    obtain ⟨u1,rfl,G',s1,s2,s3,s4⟩:=hp
    first
     | (cases s3;exact hq)
     | (obtain ⟨rch,rfl,_⟩:=s3;exact hq)
 | .cond c x y,hok,H,G,w,md,u,fr,a,z,F,n,Q,c₀,cs,hF,hro,hs,e,hm,h,hQ=>by
  simp only [qiw] at h
  split at h
  .rename_i hb
   have hv:=qp hs e hb
   simp only [Rel] at hv
   exact wpSIn_cond hv (qc4 hc hd fn fuel x (Bool.and_eq_true_iff.1 hok).1 H G w md u fr a z F n Q c₀ cs hF hro hs e hm h hQ)
  .rename_i hb
   have hv:=qp hs e hb
   simp only [Rel] at hv
   exact wpSIn_cond hv (qc4 hc hd fn fuel y (Bool.and_eq_true_iff.1 hok).2 H G w md u fr a z F n Q c₀ cs hF hro hs e hm h hQ)
  .cases h
 | .skip,hok,H,G,w,md,u,fr,a,x,F,n,Q,c₀,cs,hF,hro,hs,e,hm,h,hQ=>jm hc hd fn fuel _ hok H G w md u fr a x F n Q c₀ cs hF hro hs e hm h hQ
 | .label l,hok,H,G,w,md,u,fr,a,x,F,n,Q,c₀,cs,hF,hro,hs,e,hm,h,hQ=>jm hc hd fn fuel _ hok H G w md u fr a x F n Q c₀ cs hF hro hs e hm h hQ
 | .exit id,hok,H,G,w,md,u,fr,a,x,F,n,Q,c₀,cs,hF,hro,hs,e,hm,h,hQ=>jm hc hd fn fuel _ hok H G w md u fr a x F n Q c₀ cs hF hro hs e hm h hQ
 | .goto l,hok,H,G,w,md,u,fr,a,x,F,n,Q,c₀,cs,hF,hro,hs,e,hm,h,hQ=>jm hc hd fn fuel _ hok H G w md u fr a x F n Q c₀ cs hF hro hs e hm h hQ
 | .ret,hok,H,G,w,md,u,fr,a,x,F,n,Q,c₀,cs,hF,hro,hs,e,hm,h,hQ=>jm hc hd fn fuel _ hok H G w md u fr a x F n Q c₀ cs hF hro hs e hm h hQ
 | .block id c,hok,H,G,w,md,u,fr,a,x,F,n,Q,c₀,cs,hF,hro,hs,e,hm,h,hQ=>jm hc hd fn fuel _ hok H G w md u fr a x F n Q c₀ cs hF hro hs e hm h hQ
 | .loop c,hok,H,G,w,md,u,fr,a,x,F,n,Q,c₀,cs,hF,hro,hs,e,hm,h,hQ=>jm hc hd fn fuel _ hok H G w md u fr a x F n Q c₀ cs hF hro hs e hm h hQ
 | .scope c,hok,H,G,w,md,u,fr,a,x,F,n,Q,c₀,cs,hF,hro,hs,e,hm,h,hQ=>jm hc hd fn fuel _ hok H G w md u fr a x F n Q c₀ cs hF hro hs e hm h hQ
 | .region id ops draw,hok,H,G,w,md,u,fr,a,x,F,n,Q,c₀,cs,hF,hro,hs,e,hm,h,hQ=>jm hc hd fn fuel _ hok H G w md u fr a x F n Q c₀ cs hF hro hs e hm h hQ
 | .rangeFunc f ps as body,hok,H,G,w,md,u,fr,a,x,F,n,Q,c₀,cs,hF,hro,hs,e,hm,h,hQ=>jm hc hd fn fuel _ hok H G w md u fr a x F n Q c₀ cs hF hro hs e hm h hQ
 | .refuse s,hok,H,G,w,md,u,fr,a,x,F,n,Q,c₀,cs,hF,hro,hs,e,hm,h,hQ=>jm hc hd fn fuel _ hok H G w md u fr a x F n Q c₀ cs hF hro hs e hm h hQ
end
end Go.E2
/- E2: CALLS: what E2 makes of a function the model makes of it. -/
namespace Go.E2
open Go
section
variable {P:Program} {sp:Nat->Option (List V->Heap->Option (CR×Heap))} {H:Heap} {G:qi} {w:World} {fr:Fr} {a:Act}
def zmu (P:Program):Prop:=
 ∀ f fn args v,P.funcs[f]? = some fn->fn.body=none->zcp (qsa fn.name) args=some v->∀ G w (rargs:Array Value),qm G w args rargs.toList->
  ∃ x w',(callFunc f rargs).run P w=.ok (.value x) w'/\w'.heap=w.heap/\(w'.os=w.os/\w'.output=w.output)/\Rel G w v x
def zm (P:Program) (f:Nat) (s:List V->Heap->Option (CR×Heap)):Prop:=
 ∀ args H r H',s args H=some (r,H')->∀ G w rargs,Sim H G w->qm G w args rargs.toList->∃ fn c,P.funcs[f]? = some fn/\(fn.name == "runtime.NumGoroutine")=false/\fn.body=some c/\
  ∀ F n,qdc F->CallsIn F n P f rargs w fun e w'=>∃ G',Step H G w H' G' w'/\qhy G' w' r e
def q52 (tmps:Array Value):ResultVar->Sem Value
 | .tmp t=>pure (tmps.getD t undef)
 | .cell a t=>do loadVar t (<-asAddr (tmps.getD a undef))
theorem qjh (hs:Sim H G w) (e:SimFr G w fr a):∀ (rs:List ResultVar) (vs:List V),kx (qo P sp) fr H rs=some vs->∃ l,(rs.mapM (q52 a.tmps)).run P w=.ok l w/\qm G w vs l
 | [],vs,h=>by
  simp only [kx,zS] at h
  subst h
  exact ⟨[],by simp,qm.nil⟩
 | .tmp t::rs,vs,h=>by
  simp only [kx,zI,zM] at h
  obtain ⟨v,hv,us,h1,rfl⟩:=h
  obtain ⟨l,h2,h3⟩:=qjh hs e rs us h1
  exact ⟨_::l,by simp [List.mapM_cons,q52,h2],qm.cons (qjw e hv) h3⟩
 | .cell x t::rs,vs,h=>by
  simp only [kx,qo,zI,zM] at h
  obtain ⟨ti,ht,p,hp,v,hv,us,h1,rfl⟩:=h
  obtain ⟨l,h2,h3⟩:=qjh hs e rs us h1
  obtain ⟨y,ad,l1,l2,l3⟩:=qig hs ht (qjw e hp) hv
  refine ⟨y::l,?_,qm.cons l3 h3⟩
  simp [List.mapM_cons,q52,h2,l1,asAddr,l2]
theorem qub (hs:Sim H G w) (e:SimFr G w fr a) {fn:Func} {vs:List V} (h:kx (qo P sp) fr H fn.results.toList=some vs) :
  ∃ v,(results fn a.tmps).run P w=.ok v w/\Rel G w (oneOf vs) v:=by
 obtain ⟨l,h1,h2⟩:=qjh hs e _ _ h
 have hm:(fn.results.mapM (q52 a.tmps)).run P w=.ok l.toArray w:=by
  rw [Array.mapM_eq_mapM_toList]
  simp only [Sem.run_map,h1,Result.andThen_ok]
 have hr:results fn a.tmps=(do
   let vs <-fn.results.mapM (q52 a.tmps)
   pure (if h:vs.size=1 then vs[0] else .tuple vs)):=rfl
 rw [hr]
 simp only [Sem.run_bind,hm,Result.andThen_ok,Sem.run_pure]
 refine ⟨_,rfl,?_⟩
 match vs,h2 with
 | [],h2=>
  simp only [qm] at h2
  subst h2
  simp only [oneOf,Rel]
  exact ⟨_,rfl,qm.nil⟩
 | [v],h2=>
  simp only [qm] at h2
  obtain ⟨x,xs,rfl,h3,rfl⟩:=h2
  exact h3
 | u::v::vs,h2=>
  have hl:=h2.length
  simp only [oneOf,Rel]
  refine ⟨l.toArray,?_,h2⟩
  rw [dif_neg (by simp at hl ⊢;omega)]
theorem qr9 {args:List V} {rargs:Array Value} (h:qm G w args rargs.toList) (k:Nat):SimFr G w {tmps:=qdt args,n:=max args.length k,defers:=[]} {tmps:=rargs++Array.replicate (k-rargs.size) undef,defers:=[]}:=by
 have hl:=h.length
 simp only [Array.length_toList] at hl
 refine ⟨fun i v hv=>?_,?_,by simp [j8]⟩
 .simp only [qdt,Tree.qn3] at hv
  obtain ⟨x,hx,hr⟩:=h.get hv
  have:(rargs++Array.replicate (k-rargs.size) undef).getD i undef=x:=by
   rw [Array.getElem?_toList] at hx
   have hi:i<rargs.size:=by rw [Array.getElem?_eq_some_iff] at hx;exact hx.1
   rw [Array.getD_eq_getD_getElem?,Array.getElem?_append_left hi,hx];rfl
  rw [this];exact hr
 .simp only [Array.size_append,Array.size_replicate]
  omega
theorem quz {call:Call} (hc:qdi P call) (hd:qqn P sp call) (hcode:∀ (f:Nat) (fn:Func) (c:Code),P.funcs[f]? = some fn->fn.body=some c->codeOk c=true) (fuel:Nat) {F:Fence} (hF:qdc F) (hro:F.round=none) {d:D} {rd:Deferred} {md md':Md} {u:FrameMode} {H':Heap}
  (hs:Sim H G w) (hdf:qtz G w d rd) (hm:qfd G w md u) (h:qj4 (qo P sp) call fuel d md H=some (md',H')) :
  ∃ fv cap f args,rd.target=.fn fv cap/\(invoke rd.target rd.args).run P w=.ok (.enter f args) w/\∀ (n:Nat) (R:Ending->FrameMode->World->Prop),(∀ v u' w' G',Step H G w H' G' w'->qfd G' w' md' u'->R (.returned v) u' w')->CallsDIn F n P f args u w R:=by
 obtain ⟨fn',cap,ht,h1,h2,h3⟩:=hdf
 unfold qj4 at h
 split at h
 .rename_i f hfn0
  rw [hfn0] at h1
  simp only [qgo] at h1
  subst h1
  simp only [zI] at h
  obtain ⟨fi,hfi,h⟩:=h
  simp only [qo,funcOf] at hfi
  split at hfi
  .rename_i fn hfn
   rw [cond_eq_ite] at hfi
   split at hfi
   .cases hfi
   .rename_i hname
    have hname':(fn.name == "runtime.NumGoroutine")=false:=by simpa using hname
    split at hfi
    .rename_i c hbody
     cases hfi
     simp only [zI] at h
     obtain ⟨x,hx,h⟩:=h
     have hargs:qm G w (d.args++d.captured) (rd.args++cap).toList:=by rw [Array.toList_append];exact h3.append h2
     refine ⟨.func f,cap,f,rd.args++cap,ht,?_,fun n R hR=>?_⟩
     .rw [ht]
      have h0:(invoke (.fn (.func f) cap) rd.args).run P w=(callFunc f (rd.args++cap)).run P w:=rfl
      rw [h0,qag hfn hname' hbody]
     .refine callsDIn_of_wpSIn hfn hbody (hF.1 f) (fun c₀ cs hu=>?_)
      subst hu
      refine qc4 hc hd f fuel c (hcode f fn c hfn hbody) H G w md c₀.mode _ _ x F n _ c₀ cs hF hro hs (qr9 hargs fn.ntmps) hm hx (fun e a' cs' w' hp=>?_)
      obtain ⟨u',rfl,G',s1,s2,s3,s4⟩:=hp
      obtain ⟨ex,md1,fr1,H1⟩:=x
      have fin:∀ vs,fr1.defers=[]->kx (qo P sp) fr1 H1 fn.results.toList=some vs->md1=md'->H1=H'->bodyPostS P fn c₀ cs R .normal a' ({c₀ with mode:=u'}::cs) w':=by
       intro vs hd0 hvs e1 e2
       subst e1
       subst e2
       obtain ⟨v,b1,b2⟩:=qub s1.sim s2 hvs
       have hdf:=s2.dfr
       simp only at hdf
       rw [hd0] at hdf
       exact ⟨hdf,u',rfl,v,b1,hR v u' w' G' s1 s4⟩
      simp only at h
      split at h
      .rename_i hx1 hx2
       simp only [zM,zP] at h
       obtain ⟨vs,hvs,e1,e2⟩:=h
       simp only [qm8] at s3
       subst s3
       exact fin vs hx2 hvs e1 e2
      .rename_i hx1 hx2
       simp only [zM,zP] at h
       obtain ⟨vs,hvs,e1,e2⟩:=h
       simp only [qm8] at s3
       subst s3
       exact fin vs hx2 hvs e1 e2
      .cases h
    .cases hfi
     cases h
  .cases hfi
 .cases h
theorem qlw {call:Call} (hc:qdi P call) (hd:qqn P sp call) (hcode:∀ (f:Nat) (fn:Func) (c:Code),P.funcs[f]? = some fn->fn.body=some c->codeOk c=true) (fuel:Nat) {F:Fence} {n:Nat} (hF:qdc F) (hro:F.round=none) {fn:Func} {tmps:Array Value} {R:Ending->World->Prop} {md':Md} {H':Heap}:∀ (ds:List Dfr) (l:List Deferred) (H:Heap) (G:qi) (w:World) (md:Md) (u:FrameMode),Sim H G w->j8 G w ds l->qfd G w md u->leave (qo P sp) call fuel ds md H=some (md',H')->
  (∀ w' G' u',Step H G w H' G' w'->qfd G' w' md' u'->LeavesInM F n P fn tmps R [] u' w')->LeavesInM F n P fn tmps R l u w
 | [],l,H,G,w,md,u,hs,hdf,hm,h,hR=>by
  simp only [j8] at hdf
  subst hdf
  simp only [leave,zS,zP] at h
  obtain ⟨rfl,rfl⟩:=h
  exact hR w G u (Step.refl hs) hm
 | .call d::ds,l,H,G,w,md,u,hs,hdf,hm,h,hR=>by
  simp only [j8] at hdf
  obtain ⟨x,xs,rfl,h1,h2⟩:=hdf
  simp only [leave,zI] at h
  obtain ⟨⟨md1,H1⟩,h3,h⟩:=h
  obtain ⟨fv,cap,f,args,ht,hinv,hcall⟩:=quz hc hd hcode fuel hF hro hs h2 hm h3
  refine ⟨hm.zhc,.inr ⟨by rw [hF.2.1];simp,fv,cap,f,args,ht,hinv,fun g _=>hF.1 g,hcall (n-1) _ (fun v u' w' G' st hm'=>?_)⟩⟩
  exact qlw hc hd hcode fuel hF hro ds xs H1 G' w' (q21 md1) (Go.settle u') st.sim (h1.ext st.ext) hm'.settle h (fun w2 G2 u2 st2 hm2=>hR w2 G2 u2 (st.trans st2) hm2)
 | .mark nm::ds,l,H,G,w,md,u,hs,hdf,hm,h,hR=>by
  simp only [j8] at hdf
  obtain ⟨x,xs,rfl,h1,b,sh,m,hg,rfl⟩:=hdf
  simp only [leave] at h
  split at h
  .rename_i ho
   simp only [zI] at h
   obtain ⟨H1,hup,h⟩:=h
   obtain ⟨u1,rfl⟩:=qft hup
   have hob:=hs.obj nm _ (hs.lt _ _ _ _ _ hg).2 ho
   have hb:=(hob 0 b sh m hg).2
   have st:=hs.setObj .gone ho hg u1 (.deferred none) hb (by simp only [World.shape?,hb]) (fun _=>trivial)
   refine ⟨hm.zhc,.inl ⟨b,_,rfl,?_,qlw hc hd hcode fuel hF hro ds xs _ G _ md u st.sim (h1.ext st.ext) (hm.ext st.ext) h (fun w' G' u' st' hm'=>hR w' G' u' (st.trans st') hm')⟩⟩
   simp only [Instr.takeDeferred,Sem.run_bind]
   simp [getObj,setObj,Sem.run,hb,qjv]
  .cases h
theorem qcy {ln:Nat}:∀ (ps:List Tmp) (args:List V) (t t':Tree V) (arr:Array Value) (rargs:List Value),qxm G w t arr->arr.size=ln->qm G w args rargs->qc6 ln ps args t=some t'->
  rargs.length=ps.length/\qxm G w t' ((ps.zip rargs).foldl (fun tmps (x:Tmp×Value)=>tmps.setIfInBounds x.1 x.2) arr)/\((ps.zip rargs).foldl (fun tmps (x:Tmp×Value)=>tmps.setIfInBounds x.1 x.2) arr).size=ln
 | [],[],t,t',arr,rargs,ht,hn,hr,h=>by
  simp only [qm] at hr
  subst hr
  simp only [qc6,zS] at h
  subst h
  exact ⟨rfl,ht,hn⟩
 | [],_::_,t,t',arr,rargs,ht,hn,hr,h=>by simp [qc6] at h
 | _::_,[],t,t',arr,rargs,ht,hn,hr,h=>by simp [qc6] at h
 | p::ps,v::args,t,t',arr,rargs,ht,hn,hr,h=>by
  simp only [qm] at hr
  obtain ⟨y,ys,rfl,h1,h2⟩:=hr
  simp only [qc6,cond_eq_ite,Nat.blt_eq] at h
  split at h
  .rename_i hp
   have e0:SimFr G w {tmps:=t,n:=ln,defers:=[]} {tmps:=arr,defers:=[]}:=⟨ht,hn,by simp [j8]⟩
   have e1:=(e0.put (some p) h1).tmps
   simp only [Fr.put,Act.put,cond_eq_ite,Nat.blt_eq,hp,if_true] at e1
   obtain ⟨q1,q2,q3⟩:=qcy ps args (t.set p v) t' (arr.setIfInBounds p y) ys e1 (by simpa using hn) h2 h
   exact ⟨by simp [q1],q2,q3⟩
  .cases h
theorem qh5 (hs:Sim H G w) {l b sh n:Nat} (hg:G l 0=some (b,sh,n)) {jump:Option Code} {r:CR} {H':Heap} (h:qf2 H l jump=some (r,H')) :
  ∃ v w',(Instr.endRound b jump).run P w=.ok v w'/\Step H G w H' G w'/\qhy G w' r (.returned v):=by
 unfold qf2 at h
 split at h
 .rename_i st pend lt ln lp la lb ld ho
  simp only [zM,zP] at h
  obtain ⟨H1,hu,rfl,rfl⟩:=h
  obtain ⟨L,e1,_,_,st1⟩:=hs.q20 ho hg hu
  refine ⟨.bool jump.isNone,_,?_,st1,⟨_,rfl,by simp only [Rel]⟩⟩
  simp only [Instr.endRound,Sem.run_bind,run_getLoop e1,Result.andThen_ok,run_setObj_loop e1,Sem.run_pure]
 .cases h
theorem qqq (hs:Sim H G w) {l b sh n:Nat} (hg:G l 0=some (b,sh,n)) {H':Heap} (h:qug H l=some H') :
  ∃ w',(Instr.beginRound b).run P w=.ok () w'/\Step H G w H' G w':=by
 unfold qug at h
 split at h
 .rename_i pend lt ln lp la lb ld ho
  obtain ⟨L,e1,e2,e3,st1⟩:=hs.q20 ho hg h
  refine ⟨_,?_,e3 ▸ st1⟩
  simp only [Instr.beginRound,Sem.run_bind,run_getLoop e1,Result.andThen_ok,run_setObj_loop e1,e2,Sem.run_pure]
 .cases h
theorem qin (fr:Fr) (H:Heap):∀ (rs:List ResultVar),kx (qo P sp) {fr with defers:=[]} H rs=kx (qo P sp) fr H rs
 | []=>rfl
 | .tmp t::rs=>by simp only [kx,qin fr H rs];rfl
 | .cell x t::rs=>by simp only [kx,qin fr H rs];rfl
theorem qt0.ext {r:Nat} {G':qi} {w':World} (h:Ext r G w G' w') {p:PE} {q:PanicEntry} (e:qt0 G w p q):qt0 G' w' p q:=⟨e.1.ext h,e.2⟩
theorem qk2.ext {r:Nat} {G':qi} {w':World} (h:Ext r G w G' w'):∀ {l:List PE} {l':List PanicEntry},qk2 G w l l'->qk2 G' w' l l'
 | [],_,e=>e
 | p::ps,_,e=>by
  obtain ⟨q,qs,rfl,h1,h2⟩:=e
  exact ⟨q,qs,rfl,h1.ext h,qk2.ext h h2⟩
theorem qax (hm:P.follows .mixedOrders=true) (hext:zmu P) (hcode:∀ (f:Nat) (fn:Func) (c:Code),P.funcs[f]? = some fn->fn.body=some c->codeOk c=true)
  (hsp:∀ f s,sp f=some s->zm P f s):∀ n,qdi P (qaa (qo P sp) n)
 | 0=>by intro tgt args H r H' h;simp [qaa] at h
 | n+1=>by
  intro tgt args H r H' h G w t rargs hs ht
  cases tgt with
  | round l=>
   obtain ⟨cap,b,sh,m,rfl,hg,hr⟩:=ht
   simp only [qaa] at h
   split at h
   .rename_i st pend lt ln lp la lb ld ho
    simp only [zI] at h
    obtain ⟨t',hput,h⟩:=h
    obtain ⟨_,L,e1,e2,e3,e4,e5,e6,e7,e7',e8,e9,db,dsh,dn,e10,e11⟩:=hs.obj l _ (hs.lt _ _ _ _ _ hg).2 ho 0 b sh m hg
    obtain ⟨q1,q2,q3⟩:=qcy lp args lt t' L.tmps rargs.toList e9 e8 hr hput
    have hzip:(L.params.zip rargs).foldl (fun tmps (x:Tmp×Value)=>tmps.setIfInBounds x.1 x.2) L.tmps=(lp.zip rargs.toList).foldl (fun tmps (x:Tmp×Value)=>tmps.setIfInBounds x.1 x.2) L.tmps:=by
     rw [<-Array.foldl_toList,Array.toList_zip,e4]
    refine .inr (.inr ⟨b,L.fn,(lp.zip rargs.toList).foldl (fun tmps (x:Tmp×Value)=>tmps.setIfInBounds x.1 x.2) L.tmps,L.assign,L.body,?_,fun F k hF=>?_⟩)
    .have hinv:(invoke (.fn (.yield b) cap) rargs).run P w=(Instr.yield b rargs).run P w:=rfl
     have hsz:¬ rargs.size≠L.params.size:=by
      have h1:L.params.size=lp.length:=by rw [<-e4];simp
      have h2:rargs.size=lp.length:=by simpa using q1
      omega
     rw [hinv,<-hzip]
     simp only [Instr.yield,Sem.run_bind,run_getLoop e1,Result.andThen_ok,zF hsz,Sem.run_pure]
    .split at h
     .rename_i fr1 H1 hev
      simp only [zI] at h
      obtain ⟨H2,hbeg,y,hev2,hout⟩:=h
      refine roundIn_of_wpIn (hF.1 _) ?_
      rw [e5,e6]
      refine jc (qax hm hext hcode hsp n) (q1b (qax hm hext hcode hsp n) hm) 0 (n+1) la e7 (some l) H G w {tmps:=t',n:=ln,defers:=[]} _ _ (F.inRound b) k _ (hF.inRound b) ⟨b,sh,m,hg,rfl⟩ hs ⟨q2,q3,by simp [j8]⟩ hev (fun ex a' w' hp=>?_)
      obtain ⟨G1,st1,sf1,se1⟩:=hp
      simp only [qm8] at se1
      subst se1
      have hg1:=st1.ext.sub _ _ _ hg
      obtain ⟨w2,hb2,st2⟩:=qqq (P:=P) st1.sim hg1 hbeg
      refine ⟨w2,hb2,?_⟩
      refine jc (qax hm hext hcode hsp n) (q1b (qax hm hext hcode hsp n) hm) 0 (n+1) lb e7' (some l) H2 G1 w2 fr1 _ _ (F.inRound b) k _ (hF.inRound b) ⟨b,sh,m,hg1,rfl⟩ st2.sim (sf1.ext st2.ext) hev2 (fun ex a'' w'' hp=>?_)
      obtain ⟨G3,st3,sf3,se3⟩:=hp
      have hg3:=st3.ext.sub _ _ _ hg1
      have stA:=(st1.trans st2).trans st3
      unfold ql8 at hout
      split at hout
      .rename_i hx
       rw [hx] at se3
       simp only [qm8] at se3
       subst se3
       obtain ⟨v,w4,g1,g2,g3⟩:=qh5 (P:=P) st3.sim hg3 hout
       exact ⟨v,w4,g1,G3,stA.trans g2,g3⟩
      .rename_i hx
       rw [hx] at se3
       simp only [qm8] at se3
       subst se3
       obtain ⟨v,w4,g1,g2,g3⟩:=qh5 (P:=P) st3.sim hg3 hout
       exact ⟨v,w4,g1,G3,stA.trans g2,g3⟩
      .rename_i id hx
       rw [hx] at se3
       simp only [qm8] at se3
       subst se3
       obtain ⟨v,w4,g1,g2,g3⟩:=qh5 (P:=P) st3.sim hg3 hout
       exact ⟨v,w4,g1,G3,stA.trans g2,g3⟩
      .cases hout
     .cases h
   .cases h
  | func f=>
   obtain ⟨cap,rfl,hr⟩:=ht
   have hr':qm G w args (rargs++cap).toList:=by simpa using hr
   have hinv:(invoke (.fn (.func f) cap) rargs).run P w=(callFunc f (rargs++cap)).run P w:=rfl
   rw [hinv]
   simp only [qaa] at h
   split at h
   .rename_i r' hspec
    cases h
    split at hspec
    .rename_i s hspec'
     obtain ⟨fn,c,h1,h2,h3,h4⟩:=hsp f s hspec' args H r H' hspec G w _ hs hr'
     exact .inr (.inl ⟨f,rargs++cap,qag h1 h2 h3 _ _,h4⟩)
    .cases hspec
   .simp only [zI] at h
    obtain ⟨fi,hfi,h⟩:=h
    simp only [qo,funcOf] at hfi
    split at hfi
    .rename_i fn hfn
     rw [cond_eq_ite] at hfi
     split at hfi
     .cases hfi
     .rename_i hname
      have hname':(fn.name == "runtime.NumGoroutine")=false:=by simpa using hname
      split at hfi
      .rename_i c hbody
       cases hfi
       simp only [zI] at h
       obtain ⟨x,hx,y,hy,h⟩:=h
       refine .inr (.inl ⟨f,rargs++cap,qag hfn hname' hbody _ _,fun F m hF=>?_⟩)
       have hF0:qdc {F with round:=none}:=hF
       refine (CallsIn.inRound (F:={F with round:=none}) 0 (callsIn_of_wp_marks (F:={F with round:=none}) hfn hbody (hF.1 f) ?_ rfl):CallsIn F m P f (rargs++cap) w _)
       refine jc (qax hm hext hcode hsp n) (q1b (qax hm hext hcode hsp n) hm) f (n+1) c (hcode f fn c hfn hbody) none H G w _ _ x _ m _ hF0 rfl hs (qr9 hr' fn.ntmps) hx (fun ex a' w' hp=>?_)
       obtain ⟨G',st,sf,se⟩:=hp
       have hgo:∀ md md2 H2 u,qfd G' w' md u->leave (qo P sp) (qaa (qo P sp) n) (n+1) x.2.1.defers md x.2.2=some (md2,H2)->y=(md2,x.2.1,H2)->LeavesInM {F with round:=none} m P fn a'.tmps (fun e w'=>∃ G',Step H G w H' G' w'/\qhy G' w' r e) a'.defers u w':=by
        intro md md2 H2 u hm0 hl hy
        subst hy
        refine qlw (qax hm hext hcode hsp n) (q1b (qax hm hext hcode hsp n) hm) hcode (n+1) hF0 rfl _ _ _ _ _ _ _ st.sim sf.dfr hm0 hl (fun w2 G2 u2 st2 hm2=>?_)
        cases md2 with
        | returning=>
         simp only [qfd] at hm2
         subst hm2
         simp only [qlt,zM,zP] at h
         obtain ⟨vs,hvs,rfl,rfl⟩:=h
         have sf2:=sf.ext st2.ext
         have sf3:SimFr G2 w2 {x.2.1 with defers:=[]} {a' with defers:=[]}:=⟨sf2.tmps,sf2.n,by simp [j8]⟩
         have hvs':kx (qo P sp) {x.2.1 with defers:=[]} H2 fn.results.toList=some vs:=by rw [<-hvs];exact qin _ _ _
         obtain ⟨v,b1,b2⟩:=qub st2.sim sf3 hvs'
         exact ⟨v,b1,G2,st.trans st2,v,rfl,b2⟩
        | panicking v=>
         obtain ⟨rv,rfl,hv⟩:=hm2
         simp only [qlt,zS,zP] at h
         obtain ⟨rfl,rfl⟩:=h
         exact ⟨G2,st.trans st2,_,rfl,by simp only [qk2,qt0];exact ⟨_,_,rfl,⟨hv,rfl,rfl⟩,rfl⟩⟩
        | recovered v=>simp [qlt] at h
       unfold q26 at hy
       split at hy
       .rename_i hx1
        rw [hx1] at se
        simp only [qm8] at se
        subst se
        simp only [zM] at hy
        obtain ⟨⟨md2,H2⟩,hl,hy⟩:=hy
        exact hgo .returning md2 H2 .returning rfl hl hy.symm
       .rename_i hx1
        rw [hx1] at se
        simp only [qm8] at se
        subst se
        simp only [zM] at hy
        obtain ⟨⟨md2,H2⟩,hl,hy⟩:=hy
        exact hgo .returning md2 H2 .returning rfl hl hy.symm
       .rename_i v hx1
        rw [hx1] at se
        obtain ⟨rch,rfl,hch⟩:=se
        simp only [qk2,qt0] at hch
        obtain ⟨⟨qv,qr,qg⟩,qs,rfl,⟨q1,q2,q3⟩,rfl⟩:=hch
        simp only at q2 q3
        subst q2
        subst q3
        simp only [zM] at hy
        obtain ⟨⟨md2,H2⟩,hl,hy⟩:=hy
        exact hgo (.panicking v) md2 H2 _ ⟨qv,rfl,q1⟩ hl hy.symm
       .cases hy
      .rename_i hbody
       cases hfi
       simp only [zM,zP] at h
       obtain ⟨v,hv,rfl,rfl⟩:=h
       obtain ⟨x,w',e1,e2,eo,e3⟩:=hext f fn args v hfn hbody hv G w _ hr'
       exact .inl ⟨x,w',G,v,e1,Step.same hs e2 eo,rfl,e3.same e2⟩
    .cases hfi
end
end Go.E2
/- E2: FUNCTIONS WITHOUT A BODY, and what is asked of a program's tables, in one check. -/
namespace Go.E2
open Go
def zk1 (fn:Func):Bool:=
 match fn.body with
 | some c=>codeOk c
 | none=>Nat.beq (qsa fn.name) 0 || fn.origin == "" || fn.origin == fn.name
def qkp (P:Program):Bool:=P.funcs.all zk1
section
variable {P:Program}
theorem q98 (h:qkp P=true) {f:Nat} {fn:Func} (hf:P.funcs[f]? = some fn):zk1 fn=true:=by
 simp only [qkp] at h
 rw [Array.all_eq_true] at h
 rw [Array.getElem?_eq_some_iff] at hf
 obtain ⟨hi,rfl⟩:=hf
 exact h f hi
theorem q9m (h:qkp P=true) (f:Nat) (fn:Func) (c:Code) (hf:P.funcs[f]? = some fn) (hb:fn.body=some c):codeOk c=true:=by
 have:=q98 h hf
 simpa only [zk1,hb] using this
theorem qrf {fn:Func} {s:String} (hn:fn.name=s) (ho:fn.origin = "" ∨ fn.origin=fn.name) (h:Extern.allNextRows.lookup s=none):Extern.findNext fn=none:=by
 have h0:Extern.allNextRows.lookup "" = none:=by kernel_rfl
 rcases ho with ho | ho
 .simp only [Extern.findNext,ho,hn,h,h0];rfl
 .simp only [Extern.findNext,ho,hn,h];rfl
theorem qre {fn:Func} {s:String} {e:Array Value->Sem Value} (hn:fn.name=s) (h1:Extern.allGenericRows.lookup s=none) (h2:Extern.allTypedRows.lookup s=none) (h3:Extern.allRows.lookup s=some e):Extern.find fn=some e:=by
 simp only [Extern.find,hn,h1,h2,h3];rfl
theorem qi0 (c:UInt8):∀ l:List UInt8,Lib.indexByte l c=(match l.findIdx? (fun b=>b == c) with | some i=>(i:Int) | none=>-1)
 | []=>rfl
 | b::l=>by
  unfold Lib.indexByte
  rw [List.findIdx?_cons,qi0 c l]
  by_cases h:(b == c)=true
  .simp [h]
  .simp only [h]
   cases hq:l.findIdx? (fun b=>b == c) with
   | none=>simp
   | some i=>
    have:¬ ((i:Int) == -1)=true:=by simp
    simp [this]
theorem zm0 (h:qkp P=true):zmu P:=by
 intro f fn args v hf hb hx G w rargs hr
 have hok:=q98 h hf
 simp only [zk1,hb,Bool.or_eq_true,Nat.beq_eq,beq_iff_eq] at hok
 unfold zcp at hx
 have hn0:qsa fn.name≠0:=by
  intro h0
  rw [h0] at hx
  simp at hx
 have ho:fn.origin = "" ∨ fn.origin=fn.name:=by
  rcases hok with (h1 | h1) | h1
  .exact (hn0 h1).elim
  .exact .inl h1
  .exact .inr h1
 have hb':fn.body.isNone=true:=by rw [hb];rfl
 have hnames:(qsa fn.name=1->fn.name = "internal/bytealg.IndexByteString")/\(qsa fn.name=2->fn.name = "internal/bytealg.CountString")/\(qsa fn.name=4->fn.name = "internal/abi.NoEscape"):=by
  unfold qsa
  simp only [beq_iff_eq]
  refine ⟨?_,?_,?_⟩<;>(intro h;repeat (split at h<;>try (first | omega | assumption)))
 split at hx
 .rename_i s c he
  cases hx
  have hn:=hnames.1 he
  simp only [qm] at hr
  obtain ⟨x,xs,h1,rfl,y,ys,rfl,rfl,rfl⟩:=hr
  have hra:rargs = #[.string ⟨s.toArray⟩,.int .u8 c]:=by apply Array.ext';simpa using h1
  refine ⟨.int .i64 (Lib.indexByte s c.toNat.toUInt8),w,?_,rfl,⟨rfl,rfl⟩,by simp only [Rel,qi0];rfl⟩
  rw [run_callFunc_extern hf (by rw [hn];decide) hb' (qrf hn ho (by kernel_rfl)) (qre hn (by kernel_rfl) (by kernel_rfl) (by kernel_rfl:Extern.allRows.lookup "internal/bytealg.IndexByteString" = some Extern.BytealgIndexByte.indexByte))]
  rw [hra,Lib.run_indexByteString]
  simp only [Result.andThen_ok]
 .rename_i s c he
  cases hx
  have hn:=hnames.2.1 he
  simp only [qm] at hr
  obtain ⟨x,xs,h1,rfl,y,ys,rfl,rfl,rfl⟩:=hr
  have hra:rargs = #[.string ⟨s.toArray⟩,.int .u8 c]:=by apply Array.ext';simpa using h1
  refine ⟨.int .i64 (s.countP (fun b=>b == c.toNat.toUInt8):Nat),w,?_,rfl,⟨rfl,rfl⟩,by simp only [Rel]⟩
  rw [run_callFunc_extern hf (by rw [hn];decide) hb' (qrf hn ho (by kernel_rfl)) (qre hn (by kernel_rfl) (by kernel_rfl) (by kernel_rfl:Extern.allRows.lookup "internal/bytealg.CountString" = some Extern.BytealgCount.count))]
  rw [hra,Lib.run_countString]
  simp only [Result.andThen_ok,Lib.countByte]
  rfl
 .rename_i x he
  cases hx
  have hn:=hnames.2.2 he
  simp only [qm] at hr
  obtain ⟨y,xs,h1,h2,rfl⟩:=hr
  have hra:rargs = #[y]:=by apply Array.ext';simpa using h1
  refine ⟨y,w,?_,rfl,⟨rfl,rfl⟩,h2⟩
  rw [run_callFunc_extern hf (by rw [hn];decide) hb' (qrf hn ho (by kernel_rfl)) (qre hn (by kernel_rfl) (by kernel_rfl) (by kernel_rfl:Extern.allRows.lookup "internal/abi.NoEscape" = some Extern.AbiNoEscape.same))]
  rw [hra,Lib.run_noEscape]
  simp only [Result.andThen_ok]
 .cases hx
end
end Go.E2
/- E2: FROM A RUN OF E2 TO A CONTRACT of the model's; a function without arguments that answers true. -/
namespace Go.E2
open Go Go.ChangeShapes Go.WideShapes Go.ChangeAt Go.RowKit
section
variable {P:Program} {H H':Heap} {G:qi} {W:World}
theorem qdi.calls {call:Call} (hc:qdi P call) {f:FuncId} {fn:Func} {c:Code} (hf:P.funcs[f]? = some fn) (hname:(fn.name == "runtime.NumGoroutine")=false) (hb:fn.body=some c)
  {args:List V} {rargs:Array Value} {r:CR} (h:call (.func f) args H=some (r,H')) (hs:Sim H G W) (hr:qm G W args rargs.toList) :
  Calls P f rargs W fun e w'=>∃ G',Step H G W H' G' w'/\qhy G' w' r e:=by
 have hinv:(invoke (.fn (.func f) #[]) rargs).run P W=.ok (.enter f rargs) W:=by
  have h0:(invoke (.fn (.func f) #[]) rargs).run P W=(callFunc f (rargs++#[])).run P W:=rfl
  rw [h0,Array.append_empty,qag hf hname hb]
 rcases hc (.func f) args H r H' h G W (.fn (.func f) #[]) rargs hs ⟨#[],rfl,by simpa using hr⟩ with ⟨x,w',G',v,h1,_⟩ | ⟨f',rargs',h1,h2⟩ | ⟨l,f',t',a',b',h1,_⟩
 .rw [hinv] at h1
  cases h1
 .rw [hinv] at h1
  cases h1
  exact callsIn_wide.1 (h2 Fence.wide 0 ⟨fun _=>trivial,rfl,rfl⟩)
 .rw [hinv] at h1
  cases h1
def H0:Heap:={qa6:=.nil,next:=0,ro:=0,qy:=0}
def noG:qi:=fun _ _=>none
theorem Step.keptBut {w':World} {G':qi} (h:Step H0 noG W H' G' w') (may:MemPlace->Prop):W.keptBut w' may:=by
 refine ⟨h.ext.out.1,h.ext.out.2,fun i hi=>?_⟩
 have h1:=(h.ext.frg i hi (fun _ _ _ _ h=>by cases h)).1
 rw [h1]
 split
 .rename_i h2 h3
  rw [h2] at h3
  cases h3
  exact ⟨rfl,rfl,rfl,fun _ _=>rfl⟩
 .rename_i h2 h3
  rw [h2] at h3
  cases h3
  exact .inr ⟨rfl,rfl⟩
 .rfl
end
end Go.E2
/- E2: A LONG RUN IN PIECES, with states written out between them; the package-level variables that a row lists, as names of E2's. -/
namespace Go.E2
open Go Go.ChangeShapes
mutual
def qj7:V->V->Bool
 | .int k a,.int k' b=>decide (k=k')&&decide (a=b)
 | .bool a,.bool b=>a == b
 | .str a,.str b=>a == b
 | .ptr a b c d,.ptr a' b' c' d'=>Nat.beq a a'&&Nat.beq b b'&&Nat.beq c c'&&Nat.beq d d'
 | .nilp,.nilp=>true
 | .slice a b c d e f,.slice a' b' c' d' e' f'=>Nat.beq a a'&&Nat.beq b b'&&Nat.beq c c'&&Nat.beq d d'&&Nat.beq e e'&&(f == f')
 | .nils,.nils=>true
 | .func (.func f) a c,.func (.func f') a' c'=>Nat.beq f f'&&qxw a a'&&qxw c c'
 | .nilf,.nilf=>true
 | .iface t v,.iface t' v'=>Nat.beq t t'&&qj7 v v'
 | .nili,.nili=>true
 | .agg l,.agg l'=>qxw l l'
 | .tuple l,.tuple l'=>qxw l l'
 | .map a,.map b=>Nat.beq a b
 | .nilm,.nilm=>true
 | _,_=>false
def qxw:List V->List V->Bool
 | [],[]=>true
 | v::l,v'::l'=>qj7 v v'&&qxw l l'
 | _,_=>false
end
mutual
theorem qiv:∀ {a b:V},qj7 a b=true->a=b
 | .int k a,.int k' b,h=>by simp only [qj7,zA,decide_eq_true_eq] at h;rw [h.1,h.2]
 | .bool a,.bool b,h=>by simp only [qj7,beq_iff_eq] at h;rw [h]
 | .str a,.str b,h=>by simp only [qj7,beq_iff_eq] at h;rw [h]
 | .ptr a b c d,.ptr a' b' c' d',h=>by simp only [qj7,zA,Nat.beq_eq] at h;obtain ⟨⟨⟨rfl,rfl⟩,rfl⟩,rfl⟩:=h;rfl
 | .nilp,.nilp,_=>rfl
 | .slice a b c d e f,.slice a' b' c' d' e' f',h=>by simp only [qj7,zA,Nat.beq_eq,beq_iff_eq] at h;obtain ⟨⟨⟨⟨⟨rfl,rfl⟩,rfl⟩,rfl⟩,rfl⟩,rfl⟩:=h;rfl
 | .nils,.nils,_=>rfl
 | .func (.func f) a c,.func (.func f') a' c',h=>by
  simp only [qj7,zA,Nat.beq_eq] at h
  rw [h.1.1,qj6 h.1.2,qj6 h.2]
 | .nilf,.nilf,_=>rfl
 | .iface t v,.iface t' v',h=>by
  simp only [qj7,zA,Nat.beq_eq] at h
  rw [h.1,qiv h.2]
 | .nili,.nili,_=>rfl
 | .agg l,.agg l',h=>by simp only [qj7] at h;rw [qj6 h]
 | .tuple l,.tuple l',h=>by simp only [qj7] at h;rw [qj6 h]
 | .map a,.map b,h=>by simp only [qj7,Nat.beq_eq] at h;rw [h]
 | .nilm,.nilm,_=>rfl
theorem qj6:∀ {a b:List V},qxw a b=true->a=b
 | [],[],_=>rfl
 | v::l,v'::l',h=>by
  simp only [qxw,zA] at h
  rw [qiv h.1,qj6 h.2]
end
def zkw:O->O->Bool
 | .row c e g f z x,.row c' e' g' f' z' x'=>qxw c c'&&Nat.beq e e'&&Nat.beq g g'&&Nat.beq f f'&&Nat.beq z z'&&(x == x')
 | .siter s p,.siter s' p'=>(s == s')&&Nat.beq p p'
 | _,_=>false
theorem q91 {a b:O} (h:zkw a b=true):a=b:=by
 unfold zkw at h
 split at h
 .simp only [zA,Nat.beq_eq,beq_iff_eq] at h
  obtain ⟨⟨⟨⟨⟨h1,rfl⟩,rfl⟩,rfl⟩,rfl⟩,rfl⟩:=h
  rw [qj6 h1]
 .simp only [zA,Nat.beq_eq,beq_iff_eq] at h
  obtain ⟨rfl,rfl⟩:=h
  rfl
 .cases h
def qdq {α:Type}:List (Nat×α)->Tree α
 | []=>.nil
 | (k,v)::l=>(qdq l).set k v
theorem qba {α:Type}:∀ (l:List (Nat×α)) (k:Nat) (v:α),(qdq l).get k=some v->(k,v) ∈ l
 | [],k,v,h=>by simp [qdq,Tree.get] at h
 | (k',v')::l,k,v,h=>by
  simp only [qdq,Tree.km] at h
  by_cases hk:k=k'
  .rw [zT hk] at h
   cases h
   rw [hk]
   exact zC
  .rw [zF hk] at h
   exact zG _ (qba l k v h)
structure Fact where
 f:Nat
 args:List V
 pre:List (Nat×O)
 next:Nat
 ro:Nat
 qy:Nat
 ret:V
 post:List (Nat×O)
 next':Nat
def Fact.heap (F:Fact):Heap:={qa6:=qdq F.pre,next:=F.next,ro:=F.ro,qy:=F.qy}
def qv8 (H:Heap) (l:List (Nat×O)):Bool:=
 l.all fun x=>match H.get x.1 with
  | some o=>zkw o x.2
  | none=>false
theorem holds_of {H:Heap} {l:List (Nat×O)} (h:qv8 H l=true) {k:Nat} {o:O} (hk:(k,o) ∈ l):H.get k=some o:=by
 have:=List.all_eq_true.1 h (k,o) hk
 simp only at this
 split at this
 .rename_i u hu
  rw [hu,q91 this]
 .cases this
def Fact.ok (F:Fact) (E:Env) (n:Nat):Bool:=
 match qaa E n (.func F.f) F.args F.heap with
 | some (.ret v,H)=>qj7 v F.ret&&Nat.beq H.next F.next'&&Nat.ble F.next F.next'&&qv8 H F.post
 | _=>false
def Fact.dels (F:Fact):List Nat:=(F.pre.map (·.1)).filter (fun k=>Nat.ble F.ro k)++List.range' F.next (F.next'-F.next)
def Fact.try (F:Fact) (args:List V) (H:Heap):Option (CR×Heap):=
 match H with
 | ⟨t,k,r,g⟩=>bif qxw args F.args&&Nat.beq k F.next&&Nat.beq r F.ro&&Nat.beq g F.qy&&qv8 ⟨t,k,r,g⟩ F.pre then
   some (.ret F.ret,⟨kk (qdq F.post) F.dels t,F.next',r,g⟩) else none
section
variable {P:Program} {sp:Nat->Option (List V->Heap->Option (CR×Heap))} {n:Nat}
theorem Fact.step {F:Fact} {H H1:Heap} {G G':qi} {w w':World} (hs:Sim H G w) (h1:H.next=F.next) (h2:H.ro=F.ro) (h3:H.qy=F.qy) (hpre:qv8 H F.pre=true) (st:Step F.heap G w H1 G' w') (hn:H1.next=F.next') (hle:F.next<=F.next')
  (hpost:qv8 H1 F.post=true):Step H G w {H with qa6:=kk (qdq F.post) F.dels H.qa6,next:=F.next'} G' w':=by
 have hget:∀ nm,({H with qa6:=kk (qdq F.post) F.dels H.qa6,next:=F.next'}:Heap).get nm=if nm ∈ F.dels then (qdq F.post).get nm else H.get nm:=fun nm=>jf _ _ _ _
 have hsub:∀ nm o,F.heap.get nm=some o->H.get nm=some o:=fun nm o h=>holds_of hpre (qba _ _ _ h)
 have hmem:∀ nm,F.ro<=nm->nm<F.next->nm ∉ F.dels->F.heap.get nm=none:=by
  intro nm hr _ hd
  cases hq:F.heap.get nm with
  | none=>rfl
  | some o=>
   exfalso
   apply hd
   refine List.mem_append_left _ (List.mem_filter.2 ⟨?_,by simpa using hr⟩)
   exact List.mem_map.2 ⟨(nm,o),qba _ _ _ hq,rfl⟩
 have hlow:∀ nm,nm<F.ro->nm ∉ F.dels:=by
  intro nm hr hd
  rcases List.mem_append.1 hd with hd | hd
  .have:=(List.mem_filter.1 hd).2
   rw [Nat.ble_eq] at this
   omega
  .have:=(List.mem_range'_1.1 hd).1
   have hro:=st.sim.ro
   have:=hs.ro
   omega
 have hext:Ext H.ro G w G' w':=by
  have h:=st.ext
  rw [show F.heap.ro=H.ro from h2.symm] at h
  exact h
 refine ⟨hext,⟨fun nm g b sh m hg=>?_,st.sim.inj,fun nm o hl ho=>?_,?_,?_,fun g o hg ho=>?_⟩,by simp only;rw [h1];exact hle,rfl,rfl,fun nm hr=>?_,fun nm g x hx hr=>st.newG nm g x hx (show nm<F.ro by rw [<-h2];exact hr),fun nm hl hnone=>?_⟩
 .have:=st.sim.lt nm g b sh m hg
  rw [hn] at this
  exact this
 .rw [hget] at ho
  split at ho
  .have:=holds_of hpost (qba _ _ _ ho)
   exact st.sim.obj nm o (by rw [hn];exact hl) this
  .rename_i hd
   by_cases hlt:nm<F.next
   .by_cases hr:nm<F.ro
    .have hob:=hs.obj nm o (by rw [h1];exact hlt) ho
     refine hob.ext hext (fun g x hx=>st.newG nm g x hx hr) (fun g b sh m hg=>st.ext.ro nm g b sh m hr hg)
    .obtain ⟨_,q2,q3⟩:=st.frame nm hlt (hmem nm (by omega) hlt hd)
     exact (hs.obj nm o (by rw [h1];exact hlt) ho).ext hext q3 q2
   .exfalso
    apply hd
    refine List.mem_append_right _ (List.mem_range'_1.2 ⟨by omega,?_⟩)
    simp only at hl
    omega
 .simp only
  have:=hs.ro
  omega
 .exact hs.qy
 .simp only at hg
  rw [hget,zF (hlow g (by have:=hs.qy;omega))] at ho
  obtain ⟨m,hm⟩:=hs.globs g o hg ho
  exact ⟨m,st.ext.sub _ _ _ hm⟩
 .rw [hget,zF (hlow nm (by rw [<-h2];exact hr))]
 .have hl':nm<F.next:=by rw [<-h1];exact hl
  have hf:F.heap.get nm=none:=by
   cases hq:F.heap.get nm with
   | none=>rfl
   | some o=>rw [hsub nm o hq] at hnone;cases hnone
  obtain ⟨_,q2,q3⟩:=st.frame nm hl' hf
  refine ⟨?_,q2,q3⟩
  rw [hget]
  split
  .rename_i hd
   rcases List.mem_append.1 hd with hd | hd
   .obtain ⟨x,hx,rfl⟩:=List.mem_map.1 (List.mem_filter.1 hd).1
    rw [holds_of hpre (show (x.1,x.2) ∈ F.pre from hx)] at hnone
    cases hnone
   .have:=(List.mem_range'_1.1 hd).1
    omega
  .exact hnone
theorem Ext.keptBut {r:Nat} {G G':qi} {W w':World} (h:Ext r G W G' w') (hr:∀ nm g x,G nm g=some x->nm<r) (may:MemPlace->Prop):W.keptBut w' may:=by
 refine ⟨h.out.1,h.out.2,fun i hi=>?_⟩
 have h1:w'.heap[i]? = W.heap[i]?:=by
  by_cases hf:qg9 G i
  .exact (h.frg i hi hf).1
  .simp only [qg9,Classical.not_forall,Classical.not_not] at hf
   obtain ⟨nm,g,sh,m,hg⟩:=hf
   exact h.ro nm g i sh m (hr _ _ _ hg) hg
 rw [h1]
 split
 .rename_i h2 h3
  rw [h2] at h3
  cases h3
  exact ⟨rfl,rfl,rfl,fun _ _=>rfl⟩
 .rename_i h2 h3
  rw [h2] at h3
  cases h3
  exact .inr ⟨rfl,rfl⟩
 .rfl
end
def qo7 (P:Program):List Field->Nat->Nat->Bool
 | [],o,tot=>Nat.beq o tot
 | f::fs,o,tot=>Nat.beq f.offset o&&qo7 P fs (o+P.cellsOf f.type) tot
def qfx (P:Program):Nat->TypeId->DataW Unit->Option (List Value)
 | 0,_,_=>none
 | n+1,t,d=>match P.underlying t,d with
  | some .bool,.lit (.bool b)=>some [.bool b]
  | some (.int _),.lit (.int k i)=>some [.int k i]
  | some .string,.lit (.string s)=>some [.string ⟨s.toArray⟩]
  | some (.struct fs),.agg ds=>bif qo7 P fs.toList 0 (P.cellsOf t)&&Nat.beq fs.toList.length ds.length then ((fs.toList.zip ds).mapM fun x=>qfx P n x.1.type x.2).map List.flatten else none
  | some (.array m e),.agg ds=>bif Nat.beq (P.cellsOf t) (m * P.cellsOf e)&&Nat.beq ds.length m then (ds.mapM (qfx P n e)).map List.flatten else none
  | _,_=>none
section
variable {P:Program} {w:World} {base:Nat} {spare:Nat->Bool} {held:Bool}
theorem qsb {fuel n:Nat} {cs:List Value} (ih:∀ t cs d p vs,DataW.trod (fun _=>()) P w base spare held fuel t cs=some (d,p)->qfx P n t d=some vs->cs=vs) {tot:Nat} (hl:cs.length=tot) :
  ∀ (fs:List Field) (o:Nat) (ds:List (DataW Unit)) (xs:List (DataW Unit×List MemPlace)) (vss:List (List Value)),qo7 P fs o tot=true->fs.length=ds.length->
  (fs.mapM fun f=>DataW.trod (fun _=>()) P w base spare held fuel f.type ((cs.drop f.offset).take (P.cellsOf f.type)))=some xs->xs.map (·.1)=ds->((fs.zip ds).mapM fun x=>qfx P n x.1.type x.2)=some vss->cs.drop o=vss.flatten
 | [],o,ds,xs,vss,hc,hlen,hx,hd,hv=>by
  simp only [qo7,Nat.beq_eq] at hc
  simp only [List.zip_nil_left,List.mapM_nil,Option.pure_def,zS] at hv
  subst hv
  rw [List.drop_of_length_le (by omega)]
  rfl
 | f::fs,o,ds,xs,vss,hc,hlen,hx,hd,hv=>by
  simp only [qo7,zA,Nat.beq_eq] at hc
  simp only [List.mapM_cons,Option.bind_eq_bind,zI,Option.pure_def,zS] at hx
  obtain ⟨⟨d,p⟩,h1,xs',h2,rfl⟩:=hx
  simp only [List.map_cons] at hd
  subst hd
  simp only [List.zip_cons_cons,List.mapM_cons,Option.bind_eq_bind,zI,Option.pure_def,zS] at hv
  obtain ⟨vs,h3,vss',h4,rfl⟩:=hv
  have e1:=ih _ _ _ _ _ h1 h3
  have e2:=qsb ih hl fs (o+P.cellsOf f.type) _ xs' vss' hc.2 (by simpa using hlen) h2 rfl h4
  rw [hc.1] at e1
  rw [List.flatten_cons,<-e1,<-e2,<-List.drop_drop,List.take_append_drop]
theorem qu4 {fuel n:Nat} {cs:List Value} {e:TypeId} (ih:∀ t cs d p vs,DataW.trod (fun _=>()) P w base spare held fuel t cs=some (d,p)->qfx P n t d=some vs->cs=vs) :
  ∀ (l:List Nat) (o:Nat) (ds:List (DataW Unit)) (xs:List (DataW Unit×List MemPlace)) (vss:List (List Value)),l=List.range' o ds.length->cs.length=(o+ds.length) * P.cellsOf e->
  (l.mapM fun i=>DataW.trod (fun _=>()) P w base spare held fuel e ((cs.drop (i * P.cellsOf e)).take (P.cellsOf e)))=some xs->xs.map (·.1)=ds->(ds.mapM (qfx P n e))=some vss->cs.drop (o * P.cellsOf e)=vss.flatten
 | [],o,ds,xs,vss,hl,hlen,hx,hd,hv=>by
  have:ds=[]:=by
   cases ds with
   | nil=>rfl
   | cons d ds=>simp [List.range'_succ] at hl
  subst this
  simp only [List.mapM_nil,Option.pure_def,zS] at hv
  subst hv
  rw [List.drop_of_length_le (by rw [hlen];simp)]
  rfl
 | i::l,o,ds,xs,vss,hl,hlen,hx,hd,hv=>by
  simp only [List.mapM_cons,Option.bind_eq_bind,zI,Option.pure_def,zS] at hx
  obtain ⟨⟨d,p⟩,h1,xs',h2,rfl⟩:=hx
  simp only [List.map_cons] at hd
  subst hd
  simp only [List.length_cons,List.length_map,List.range'_succ,List.cons.injEq] at hl
  obtain ⟨rfl,hl⟩:=hl
  simp only [List.mapM_cons,Option.bind_eq_bind,zI,Option.pure_def,zS] at hv
  obtain ⟨vs,h3,vss',h4,rfl⟩:=hv
  have e1:=ih _ _ _ _ _ h1 h3
  have e2:=qu4 ih l (i+1) _ xs' vss' (by simpa using hl) (by rw [hlen];congr 1;simp;omega) h2 rfl h4
  rw [List.flatten_cons,<-e1,<-e2,Nat.add_mul,Nat.one_mul,<-List.drop_drop,List.take_append_drop]
theorem qqw:∀ (n fuel:Nat) (t:TypeId) (cs:List Value) (d:DataW Unit) (p:List MemPlace) (vs:List Value),DataW.trod (fun _=>()) P w base spare held fuel t cs=some (d,p)->qfx P n t d=some vs->cs=vs
 | 0,_,_,_,_,_,_,_,h=>by simp [qfx] at h
 | _+1,0,_,_,_,_,_,h,_=>by simp [DataW.trod] at h
 | n+1,fuel+1,t,cs,d,p,vs,h,hv=>by
  simp only [qfx] at hv
  split at hv
  .rename_i b hu
   cases hv
   match cs,h with
   | [],h=>simp [DataW.trod,hu] at h
   | [v],h=>
    cases v<;>simp [DataW.trod,hu] at h
    rw [h.1]
   | v::u::l,h=>simp [DataW.trod,hu] at h
  .rename_i k0 k i hu
   cases hv
   match cs,h with
   | [],h=>simp [DataW.trod,hu] at h
   | [v],h=>
    cases v<;>simp [DataW.trod,hu] at h
    obtain ⟨⟨h1,_⟩,⟨h2,h3⟩,_⟩:=h
    rw [h1,h2,h3]
   | v::u::l,h=>simp [DataW.trod,hu] at h
  .rename_i s0 hu
   cases hv
   match cs,h with
   | [],h=>simp [DataW.trod,hu] at h
   | [v],h=>
    cases v<;>simp [DataW.trod,hu] at h
    obtain ⟨_,h2,_⟩:=h
    rw [<-h2]
   | v::u::l,h=>simp [DataW.trod,hu] at h
  .rename_i fs ds hu
   simp only [DataW.trod,hu] at h
   split at h
   .rename_i hl
    obtain ⟨xs,hm,hx⟩:=zM.1 h
    simp only [zP,DataW.agg.injEq] at hx
    rw [cond_eq_ite] at hv
    split at hv
    .rename_i hb
     simp only [zA,Nat.beq_eq] at hb
     obtain ⟨vss,hv1,rfl⟩:=zM.1 hv
     have:=qsb (fun t cs d p vs h1 h2=>qqw n fuel t cs d p vs h1 h2) hl fs.toList 0 ds xs vss hb.1 hb.2 hm hx.1 hv1
     simpa using this
    .cases hv
   .cases h
  .rename_i m e ds hu
   simp only [DataW.trod,hu] at h
   split at h
   .rename_i hl
    obtain ⟨xs,hm,hx⟩:=zM.1 h
    simp only [zP,DataW.agg.injEq] at hx
    rw [cond_eq_ite] at hv
    split at hv
    .rename_i hb
     simp only [zA,Nat.beq_eq] at hb
     obtain ⟨vss,hv1,rfl⟩:=zM.1 hv
     have:=qu4 (fun t cs d p vs h1 h2=>qqw n fuel t cs d p vs h1 h2) (List.range m) 0 ds xs vss (by rw [List.range_eq_range',hb.2]) (by rw [hl,hb.1,hb.2,Nat.zero_add]) hm hx.1 hv1
     simpa using this
    .cases hv
   .cases h
  .cases hv
theorem zha {g n:Nat} (h:0<n):MemPlace.cell g 0 ∈ MemPlace.row ⟨g,0,none⟩ n:=by
 simp only [MemPlace.row,List.mem_map,List.mem_range]
 exact ⟨0,h,rfl⟩
theorem qif:∀ {laid:List (String×DataW Unit)} {ps:List MemPlace} (_:DataW.LaidVars P w laid ps) (_:∀ b off,MemPlace.cell b off ∈ ps->∃ c t,w.heap[b]? = some (.cells c t (0,0))) {name:String} {d:DataW Unit} (_:(name,d) ∈ laid)
  {g:Nat} {t:TypeId} (_:P.globalNamed name=some g) (_:(P.globals[g]?).map (·.type)=some t) {n:Nat} {vs:List Value} (_:qfx P n t d=some vs) (_:vs≠[]),∃ t',w.heap[g]? = some (.cells vs.toArray t' (0,0))
 | [],_,_,_,_,_,hm,_,_,_,_,_,_,_,_=>by cases hm
 | (n0,d0)::rest,ps,hl,hz,name,d,hm,g,t,hg,ht,n,vs,hv,hne=>by
  obtain ⟨g',t',cs,fuel,p,q,h1,h2,h3,h4,h5,rfl⟩:=hl
  rcases zD.1 hm with heq | hm
  .cases heq
   rw [hg] at h1
   cases h1
   rw [ht] at h2
   cases h2
   have hcs:=qqw n fuel t cs.toList _ p vs h4 hv
   simp only [World.var?,hg,zB] at h3
   split at h3
   .rename_i c t'' fz hh
    cases h3
    have h0:0<cs.size:=by
     rcases Nat.eq_zero_or_pos cs.size with h0 | h0
     .exfalso
      apply hne
      rw [<-hcs]
      simpa using h0
     .exact h0
    obtain ⟨c',t3,h6⟩:=hz g 0 (by
     refine List.mem_append_left _ (List.mem_append_left _ ?_)
     exact zha h0)
    rw [hh] at h6
    cases h6
    have hcv:cs=vs.toArray:=by apply Array.ext';simpa using hcs
    rw [hcv] at hh
    exact ⟨_,hh⟩
   .cases h3
  .exact qif h5 (fun b off hb=>hz b off (List.mem_append_right _ hb)) hm hg ht hv hne
end
end Go.E2
/- E2: FACTS WHOSE NAMES MAY BE OTHERS: what one call comes to, written out with names of its own, and asked for under whatever names. -/
namespace Go.E2
open Go
def assoc:List (Nat×Nat)->Nat->Option Nat
 | [],_=>none
 | (a,b)::l,nm=>bif Nat.beq a nm then some b else assoc l nm
theorem qe2:∀ {l:List (Nat×Nat)} {a b:Nat},assoc l a=some b->(a,b) ∈ l
 | [],a,b,h=>by simp [assoc] at h
 | (c,d)::l,a,b,h=>by
  simp only [assoc,cond_eq_ite,Nat.beq_eq] at h
  split at h
  .rename_i hc
   cases h
   rw [hc]
   exact zC
  .exact zG _ (qe2 h)
def inv:List (Nat×Nat)->Nat->Option Nat
 | [],_=>none
 | (a,b)::l,k=>bif Nat.beq b k then some a else inv l k
theorem qi1:∀ {l:List (Nat×Nat)} {a b:Nat},inv l b=some a->(a,b) ∈ l
 | [],a,b,h=>by simp [inv] at h
 | (c,d)::l,a,b,h=>by
  simp only [inv,cond_eq_ite,Nat.beq_eq] at h
  split at h
  .rename_i hc
   cases h
   rw [hc]
   exact zC
  .exact zG _ (qi1 h)
theorem qpt:∀ {l:List (Nat×Nat)} {b:Nat},inv l b=none->∀ a,(a,b) ∉ l
 | [],b,h,a,hm=>by cases hm
 | (c,d)::l,b,h,a,hm=>by
  simp only [inv,cond_eq_ite,Nat.beq_eq] at h
  split at h
  .cases h
  .rename_i hc
   rcases zD.1 hm with he | hm
   .cases he;exact hc rfl
   .exact qpt h a hm
def ql4:List (Nat×Nat)->Bool
 | []=>true
 | (a,b)::l=>(l.all fun x=>!Nat.beq a x.1&&!Nat.beq b x.2)&&ql4 l
theorem qih:∀ {l:List (Nat×Nat)},ql4 l=true->∀ {a b a' b':Nat},(a,b) ∈ l->(a',b') ∈ l->(a=a'↔b=b')
 | [],_,a,b,a',b',h,_=>by cases h
 | (c,d)::l,ho,a,b,a',b',h,h'=>by
  simp only [ql4,zA,List.all_eq_true] at ho
  obtain ⟨h1,h2⟩:=ho
  have hne:∀ x ∈ l,c≠x.1/\d≠x.2:=by
   intro x hx
   have:=h1 x hx
   simp only [Bool.not_eq_true'] at this
   refine ⟨fun he=>?_,fun he=>?_⟩
   .rw [he] at this;have:=this.1;rw [<-Bool.not_eq_true,Nat.beq_eq] at this;exact this rfl
   .rw [he] at this;have:=this.2;rw [<-Bool.not_eq_true,Nat.beq_eq] at this;exact this rfl
  rcases zD.1 h with he | hm
  .cases he
   rcases zD.1 h' with he' | hm'
   .cases he';simp
   .exact ⟨fun e=>absurd e (hne _ hm').1,fun e=>absurd e (hne _ hm').2⟩
  .rcases zD.1 h' with he' | hm'
   .cases he'
    exact ⟨fun e=>absurd e.symm (hne _ hm).1,fun e=>absurd e.symm (hne _ hm).2⟩
   .exact qih h2 hm hm'
theorem qg6 {l:List (Nat×Nat)} (ho:ql4 l=true) {a b:Nat} (h:(a,b) ∈ l):assoc l a=some b:=by
 cases hq:assoc l a with
 | none=>
  exfalso
  have:∀ {l:List (Nat×Nat)},assoc l a=none->(a,b) ∉ l:=by
   intro l
   induction l with
   | nil=>intro _ hm;cases hm
   | cons x l ih=>
    obtain ⟨c,d⟩:=x
    intro hn hm
    simp only [assoc,cond_eq_ite,Nat.beq_eq] at hn
    split at hn
    .cases hn
    .rename_i hc
     rcases zD.1 hm with he | hm
     .cases he;exact hc rfl
     .exact ih hn hm
  exact this hq h
 | some b'=>
  have:=qe2 hq
  rw [(qih ho this h).1 rfl]
theorem q76 {l:List (Nat×Nat)} (ho:ql4 l=true) {a b:Nat} (h:(a,b) ∈ l):inv l b=some a:=by
 cases hq:inv l b with
 | none=>exact absurd h (qpt hq a)
 | some a'=>
  have:=qi1 hq
  rw [(qih ho this h).2 rfl]
mutual
def qfp (m:Nat->Option Nat):V->Option V
 | .ptr nm g off lim=>(m nm).map fun k=>.ptr k g off lim
 | .slice nm g off len sz cap=>(m nm).map fun k=>.slice k g off len sz cap
 | .func (.func f) a c=>(qd6 m a).bind fun a'=>(qd6 m c).map fun c'=>.func (.func f) a' c'
 | .func ..=>none
 | .iface t v=>(qfp m v).map fun v'=>.iface t v'
 | .agg l=>(qd6 m l).map .agg
 | .tuple l=>(qd6 m l).map .tuple
 | .map nm=>(m nm).map .map
 | .int k n=>some (.int k n)
 | .bool b=>some (.bool b)
 | .str s=>some (.str s)
 | .nilp=>some .nilp
 | .nils=>some .nils
 | .nilf=>some .nilf
 | .nili=>some .nili
 | .nilm=>some .nilm
def qd6 (m:Nat->Option Nat):List V->Option (List V)
 | []=>some []
 | v::l=>(qfp m v).bind fun v'=>(qd6 m l).map fun l'=>v'::l'
end
def zim (m:Nat->Option Nat):List (V×V×Nat)->Option (List (V×V×Nat))
 | []=>some []
 | (k,v,b)::l=>(qfp m k).bind fun k'=>(qfp m v).bind fun v'=>(zim m l).map fun l'=>(k',v',b)::l'
def q2s (m:Nat->Option Nat):O->Option O
 | .row cells e g f z x=>(qd6 m cells).map fun c=>.row c e g f z x
 | .map es clock=>(zim m es).map fun es'=>.map es' clock
 | _=>none
section
variable {m:Nat->Option Nat} {G1 G2:qi} {w:World}
mutual
theorem Rel.ren (hm:∀ nm k,m nm=some k->∀ g,G2 k g=G1 nm g):∀ {v v':V},qfp m v=some v'->∀ {x:Value},Rel G1 w v x↔Rel G2 w v' x
 | .int _ _,v',h,x | .bool _,v',h,x | .str _,v',h,x | .nilp,v',h,x | .nils,v',h,x | .nilf,v',h,x | .nili,v',h,x | .nilm,v',h,x=>by
  simp only [qfp,zS] at h
  subst h
  simp only [Rel]
 | .ptr nm g off lim,v',h,x=>by
  simp only [qfp,zM] at h
  obtain ⟨k,hk,rfl⟩:=h
  simp only [Rel,hm nm k hk]
 | .slice nm g off len sz cap,v',h,x=>by
  simp only [qfp,zM] at h
  obtain ⟨k,hk,rfl⟩:=h
  simp only [Rel,hm nm k hk]
 | .map nm,v',h,x=>by
  simp only [qfp,zM] at h
  obtain ⟨k,hk,rfl⟩:=h
  simp only [Rel,hm nm k hk]
 | .func fn a c,v',h,x=>by
  cases fn with
  | func f=>
   simp only [qfp,zI,zM] at h
   obtain ⟨a',ha,c',hc,rfl⟩:=h
   simp only [Rel,qgo]
   constructor
   .rintro ⟨fn',ra,rc,e1,e2,e3,e4⟩
    exact ⟨fn',ra,rc,e1,e2,(qm.ren hm ha).1 e3,(qm.ren hm hc).1 e4⟩
   .rintro ⟨fn',ra,rc,e1,e2,e3,e4⟩
    exact ⟨fn',ra,rc,e1,e2,(qm.ren hm ha).2 e3,(qm.ren hm hc).2 e4⟩
  | _=>simp [qfp] at h
 | .iface t v,v',h,x=>by
  simp only [qfp,zM] at h
  obtain ⟨u,hu,rfl⟩:=h
  simp only [Rel]
  constructor
  .rintro ⟨y,e1,e2⟩;exact ⟨y,e1,(Rel.ren hm hu).1 e2⟩
  .rintro ⟨y,e1,e2⟩;exact ⟨y,e1,(Rel.ren hm hu).2 e2⟩
 | .agg l,v',h,x=>by
  simp only [qfp,zM] at h
  obtain ⟨u,hu,rfl⟩:=h
  simp only [Rel]
  constructor
  .rintro ⟨y,e1,e2⟩;exact ⟨y,e1,(qm.ren hm hu).1 e2⟩
  .rintro ⟨y,e1,e2⟩;exact ⟨y,e1,(qm.ren hm hu).2 e2⟩
 | .tuple l,v',h,x=>by
  simp only [qfp,zM] at h
  obtain ⟨u,hu,rfl⟩:=h
  simp only [Rel]
  constructor
  .rintro ⟨y,e1,e2⟩;exact ⟨y,e1,(qm.ren hm hu).1 e2⟩
  .rintro ⟨y,e1,e2⟩;exact ⟨y,e1,(qm.ren hm hu).2 e2⟩
theorem qm.ren (hm:∀ nm k,m nm=some k->∀ g,G2 k g=G1 nm g):∀ {l l':List V},qd6 m l=some l'->∀ {xs:List Value},qm G1 w l xs↔qm G2 w l' xs
 | [],l',h,xs=>by
  simp only [qd6,zS] at h
  subst h
  simp only [qm]
 | v::l,l',h,xs=>by
  simp only [qd6,zI,zM] at h
  obtain ⟨v',hv,l1,hl,rfl⟩:=h
  simp only [qm]
  constructor
  .rintro ⟨x,ys,e1,e2,e3⟩;exact ⟨x,ys,e1,(Rel.ren hm hv).1 e2,(qm.ren hm hl).1 e3⟩
  .rintro ⟨x,ys,e1,e2,e3⟩;exact ⟨x,ys,e1,(Rel.ren hm hv).2 e2,(qm.ren hm hl).2 e3⟩
end
theorem zjb {v v':V} (h:qfp m v=some v'):ZS v↔ZS v':=by
 cases v with
 | slice nm g off len sz cap=>
  simp only [qfp,zM] at h
  obtain ⟨k,_,rfl⟩:=h
  exact ⟨fun ⟨_,_,_,_,_,h⟩=>(by cases h;exact ⟨_,_,_,_,_,rfl⟩),fun ⟨_,_,_,_,_,h⟩=>(by cases h;exact ⟨_,_,_,_,_,rfl⟩)⟩
 | func fn a c=>
  cases fn with
  | func f=>
   simp only [qfp,zI,zM] at h
   obtain ⟨_,_,_,_,rfl⟩:=h
   exact ⟨fun ⟨_,_,_,_,_,h⟩=>(by cases h),fun ⟨_,_,_,_,_,h⟩=>(by cases h)⟩
  | _=>simp [qfp] at h
 | _=>
  simp only [qfp,zM,zS] at h
  first
  | (subst h;exact ⟨fun ⟨_,_,_,_,_,h⟩=>(by cases h),fun ⟨_,_,_,_,_,h⟩=>(by cases h)⟩)
  | (obtain ⟨_,_,rfl⟩:=h;exact ⟨fun ⟨_,_,_,_,_,h⟩=>(by cases h),fun ⟨_,_,_,_,_,h⟩=>(by cases h)⟩)
theorem zgs {v v':V} (h:qfp m v=some v'):isHole v=isHole v':=by
 rw [Bool.eq_iff_iff,qn7,qn7]
 constructor
 .rintro ⟨u,rfl,hz⟩
  simp only [qfp,qd6,zM,zI] at h
  obtain ⟨_,⟨u',hu,_,h1,rfl⟩,rfl⟩:=h
  cases h1
  exact ⟨u',rfl,(zjb hu).1 hz⟩
 .rintro ⟨u,rfl,hz⟩
  cases v with
  | tuple l=>
   simp only [qfp,zM,V.tuple.injEq] at h
   obtain ⟨us,hu,rfl⟩:=h
   cases l with
   | nil=>simp [qd6] at hu
   | cons x l=>
    simp only [qd6,zI,zM,List.cons.injEq] at hu
    obtain ⟨y,hy,l1,hl,rfl,rfl⟩:=hu
    cases l with
    | nil=>exact ⟨x,rfl,(zjb hy).2 hz⟩
    | cons _ _=>
     simp only [qd6,zI,zM] at hl
     obtain ⟨_,_,_,_,hl⟩:=hl
     cases hl
  | func fn a c=>
   cases fn with
   | func f=>
    simp only [qfp,zI,zM] at h
    obtain ⟨_,_,_,_,h⟩:=h
    cases h
   | _=>simp [qfp] at h
  | _=>simp [qfp] at h
theorem kh.ren (hm:∀ nm k,m nm=some k->∀ g,G2 k g=G1 nm g):∀ {l l':List V},qd6 m l=some l'->∀ {xs:List Value},kh G1 w l xs↔kh G2 w l' xs
 | [],l',h,xs=>by
  simp only [qd6,zS] at h
  subst h
  simp only [kh]
 | v::l,l',h,xs=>by
  simp only [qd6,zI,zM] at h
  obtain ⟨v',hv,l1,hl,rfl⟩:=h
  simp only [kh,zgs hv]
  constructor
  .rintro ⟨x,ys,e1,e2,e3⟩;exact ⟨x,ys,e1,e2.imp id (Rel.ren hm hv).1,(kh.ren hm hl).1 e3⟩
  .rintro ⟨x,ys,e1,e2,e3⟩;exact ⟨x,ys,e1,e2.imp id (Rel.ren hm hv).2,(kh.ren hm hl).2 e3⟩
theorem qan.ren (hm:∀ nm k,m nm=some k->∀ g,G2 k g=G1 nm g):∀ {l l':List (V×V×Nat)},zim m l=some l'->∀ {xs:List MapEntry},qan G1 w l xs↔qan G2 w l' xs
 | [],l',h,xs=>by
  simp only [zim,zS] at h
  subst h
  simp only [qan]
 | (k,v,b)::l,l',h,xs=>by
  simp only [zim,zI,zM] at h
  obtain ⟨k',hk,v',hv,l1,hl,rfl⟩:=h
  simp only [qan]
  constructor
  .rintro ⟨x,ys,e1,e2,e3,e4,e5⟩;exact ⟨x,ys,e1,(Rel.ren hm hk).1 e2,(Rel.ren hm hv).1 e3,e4,(qan.ren hm hl).1 e5⟩
  .rintro ⟨x,ys,e1,e2,e3,e4,e5⟩;exact ⟨x,ys,e1,(Rel.ren hm hk).2 e2,(Rel.ren hm hv).2 e3,e4,(qan.ren hm hl).2 e5⟩
theorem qst:∀ {l l':List V},qd6 m l=some l'->l'.length=l.length
 | [],l',h=>by simp only [qd6,zS] at h;subst h;rfl
 | v::l,l',h=>by
  simp only [qd6,zI,zM] at h
  obtain ⟨v',hv,l1,hl,rfl⟩:=h
  simp [qst hl]
theorem q0b:∀ {l l':List V} (n:Nat),qd6 m l=some l'->qd6 m (l.take n)=some (l'.take n)
 | [],l',n,h=>by simp only [qd6,zS] at h;subst h;simp [qd6]
 | v::l,l',0,h=>by simp [qd6]
 | v::l,l',n+1,h=>by
  simp only [qd6,zI,zM] at h
  obtain ⟨v',hv,l1,hl,rfl⟩:=h
  simp [qd6,hv,q0b n hl]
theorem q0a:∀ {l l':List V} (n:Nat),qd6 m l=some l'->qd6 m (l.drop n)=some (l'.drop n)
 | [],l',n,h=>by simp only [qd6,zS] at h;subst h;simp [qd6]
 | v::l,l',0,h=>by simpa using h
 | v::l,l',n+1,h=>by
  simp only [qd6,zI,zM] at h
  obtain ⟨v',hv,l1,hl,rfl⟩:=h
  simpa using q0a n hl
theorem qc7.ren (hm:∀ nm k,m nm=some k->∀ g,G2 k g=G1 nm g) {nm k:Nat} (hk:m nm=some k) {o o':O} (h:q2s m o=some o'):qc7 G1 w nm o↔qc7 G2 w k o':=by
 cases o with
 | row cells e gen f z ex=>
  simp only [q2s,zM] at h
  obtain ⟨c,hc,rfl⟩:=h
  have hcells:∀ n sh,∀ {xs},kh G1 w ((cells.take n).drop sh) xs↔kh G2 w ((c.take n).drop sh) xs:=fun n sh=>kh.ren hm (q0a sh (q0b n hc))
  simp only [qc7,hm nm k hk,qst hc,hcells]
 | map es clock=>
  simp only [q2s,zM] at h
  obtain ⟨c,hc,rfl⟩:=h
  have hes:∀ {xs},qan G1 w es xs↔qan G2 w c xs:=qan.ren hm hc
  simp only [qc7,hm nm k hk,hes]
 | _=>simp [q2s] at h
end
def q9g (ρ:List (Nat×Nat)) (a b:Nat):Option (List (Nat×Nat)):=match assoc ρ a with
 | some b'=>bif Nat.beq b' b then some ρ else none
 | none=>some ((a,b)::ρ)
mutual
def q2d:V->V->List (Nat×Nat)->Option (List (Nat×Nat))
 | .ptr a _ _ _,.ptr b _ _ _,ρ | .map a,.map b,ρ=>q9g ρ a b
 | .slice a _ _ n _ _,.slice b _ _ n' _ _,ρ=>bif Nat.beq n n' then q9g ρ a b else none
 | .int _ a,.int _ b,ρ=>bif a == b then some ρ else none
 | .bool a,.bool b,ρ=>bif a == b then some ρ else none
 | .str a,.str b,ρ=>bif a == b then some ρ else none
 | .func _ a c,.func _ a' c',ρ=>match qrg a a' ρ with
  | some ρ'=>qrg c c' ρ'
  | none=>none
 | .iface _ v,.iface _ v',ρ=>q2d v v' ρ
 | .agg l,.agg l',ρ | .tuple l,.tuple l',ρ=>qrg l l' ρ
 | _,_,ρ=>some ρ
def qrg:List V->List V->List (Nat×Nat)->Option (List (Nat×Nat))
 | v::l,v'::l',ρ=>match q2d v v' ρ with
  | some ρ'=>qrg l l' ρ'
  | none=>none
 | [],[],ρ=>some ρ
 | _,_,_=>none
end
def zg9:List (V×V×Nat)->List (V×V×Nat)->List (Nat×Nat)->Option (List (Nat×Nat))
 | (k,v,_)::l,(k',v',_)::l',ρ=>match q2d k k' ρ with
  | some ρ'=>match q2d v v' ρ' with
   | some ρ''=>zg9 l l' ρ''
   | none=>none
  | none=>none
 | [],[],ρ=>some ρ
 | _,_,_=>none
def zo7:O->O->List (Nat×Nat)->Option (List (Nat×Nat))
 | .row c _ g _ _ _,.row c' _ g' _ _ _,ρ=>bif Nat.beq g g' then qrg c c' ρ else none
 | .map es _,.map es' _,ρ=>zg9 es es' ρ
 | _,_,_=>none
def q5b (H:Heap):List (Nat×O)->List (Nat×Nat)->Option (List (Nat×Nat))
 | [],ρ=>some ρ
 | (nm,o)::l,ρ=>match assoc ρ nm with
  | some k=>match H.get k with
   | some o'=>match zo7 o o' ρ with
    | some ρ'=>q5b H l ρ'
    | none=>none
   | none=>none
  | none=>none
def zkv:List (V×V×Nat)->List (V×V×Nat)->Bool
 | [],[]=>true
 | (k,v,b)::l,(k',v',b')::l'=>qj7 k k'&&qj7 v v'&&Nat.beq b b'&&zkv l l'
 | _,_=>false
theorem q90:∀ {a b:List (V×V×Nat)},zkv a b=true->a=b
 | [],[],_=>rfl
 | (k,v,b)::l,(k',v',b')::l',h=>by
  simp only [zkv,zA,Nat.beq_eq] at h
  obtain ⟨⟨⟨h1,h2⟩,rfl⟩,h3⟩:=h
  rw [qiv h1,qiv h2,q90 h3]
def q4h:O->O->Bool
 | .map es c,.map es' c'=>zkv es es'&&Nat.beq c c'
 | o,o'=>zkw o o'
theorem q4i {a b:O} (h:q4h a b=true):a=b:=by
 unfold q4h at h
 split at h
 .simp only [zA,Nat.beq_eq] at h
  rw [q90 h.1,h.2]
 .exact q91 h
def q1x (m:Nat->Option Nat) (H:Heap) (l:List (Nat×O)):Bool:=
 l.all fun x=>match m x.1,q2s m x.2 with
  | some k,some o=>match H.get k with
   | some o'=>q4h o o'
   | none=>false
  | _,_=>false
def q1w (H:Heap) (l:List (Nat×O)):Bool:=
 l.all fun x=>match H.get x.1 with
  | some o=>q4h o x.2
  | none=>false
theorem zcz {H:Heap} {l:List (Nat×O)} (h:q1w H l=true) {k:Nat} {o:O} (hk:(k,o) ∈ l):H.get k=some o:=by
 have:=List.all_eq_true.1 h (k,o) hk
 simp only at this
 split at this
 .rename_i u hu
  rw [hu,q4i this]
 .cases this
theorem qq1 {m:Nat->Option Nat} {H:Heap} {l:List (Nat×O)} (h:q1x m H l=true) {nm:Nat} {o:O} (hk:(nm,o) ∈ l):∃ k o',m nm=some k/\q2s m o=some o'/\H.get k=some o':=by
 have:=List.all_eq_true.1 h (nm,o) hk
 simp only at this
 split at this
 .rename_i k o' h1 h2
  split at this
  .rename_i u hu
   exact ⟨k,o',h1,h2,by rw [hu,q4i this]⟩
  .cases this
 .cases this
def Fact.names (F:Fact) (ρ:List (Nat×Nat)) (next:Nat) (nm:Nat):Option Nat:=
 bif Nat.ble F.next nm then (bif Nat.blt nm F.next' then some (nm-F.next+next) else none) else assoc ρ nm
def qmw (m:Nat->Option Nat):List (Nat×O)->Option (List (Nat×O))
 | []=>some []
 | (nm,o)::l=>(m nm).bind fun k=>(q2s m o).bind fun o'=>(qmw m l).map fun l'=>(k,o')::l'
theorem qsu {m:Nat->Option Nat}:∀ {l l':List (Nat×O)},qmw m l=some l'->∀ {k:Nat} {o':O},(k,o') ∈ l'->∃ nm o,(nm,o) ∈ l/\m nm=some k/\q2s m o=some o'
 | [],l',h,k,o',hm=>by simp only [qmw,zS] at h;subst h;cases hm
 | (nm,o)::l,l',h,k,o',hm=>by
  simp only [qmw,zI,zM] at h
  obtain ⟨k1,h1,o1,h2,l1,h3,rfl⟩:=h
  rcases zD.1 hm with he | hm
  .cases he
   exact ⟨nm,o,zC,h1,h2⟩
  .obtain ⟨nm',o2,q1,q2⟩:=qsu h3 hm
   exact ⟨nm',o2,zG _ q1,q2⟩
def Fact.zqn (F:Fact) (args:List V) (H:Heap):Option (List (Nat×Nat)):=
 match qrg F.args args ((F.pre.filter fun x=>Nat.blt x.1 F.qy).map fun x=>(x.1,x.1)) with
 | some ρ=>q5b H F.pre ρ
 | none=>none
def Fact.fits (F:Fact) (ρ:List (Nat×Nat)) (args:List V) (H:Heap):Bool:=
 (match qd6 (assoc ρ) F.args with
   | some a=>qxw a args
   | none=>false)&&Nat.beq H.qy F.qy&&q1x (assoc ρ) H F.pre&&ql4 ρ&&
 ρ.all fun x=>Nat.blt x.1 F.next&&Nat.blt x.2 H.next&&(!Nat.blt x.1 F.qy || Nat.beq x.2 x.1)&&(!Nat.ble F.ro x.1 || Nat.ble H.ro x.2)
def Fact.qo9 (F:Fact) (ρ:List (Nat×Nat)) (next:Nat):List Nat:=
 ((F.pre.filter fun x=>Nat.ble F.ro x.1).filterMap fun x=>assoc ρ x.1)++List.range' next (F.next'-F.next)
def Fact.qaj (F:Fact) (args:List V) (H:Heap):Option (CR×Heap):=
 match H with
 | ⟨t,n,r,g⟩=>
  match F.zqn args ⟨t,n,r,g⟩ with
  | some ρ=>bif F.fits ρ args ⟨t,n,r,g⟩ then
    (qfp (F.names ρ n) F.ret).bind fun v=>(qmw (F.names ρ n) F.post).map fun l=>(.ret v,⟨kk (qdq l) (F.qo9 ρ n) t,n+(F.next'-F.next),r,g⟩)
   else none
  | none=>none
def Fact.ok2 (F:Fact) (E:Env) (n:Nat):Bool:=
 match qaa E n (.func F.f) F.args F.heap with
 | some (.ret v,H)=>qj7 v F.ret&&Nat.beq H.next F.next'&&Nat.ble F.next F.next'&&Nat.ble F.ro F.next&&Nat.ble F.qy F.ro&&q1w H F.post
 | _=>false
theorem qh9 {α:Type}:∀ {l:List (Nat×α)} {k:Nat} {v:α},(k,v) ∈ l->∃ v',(qdq l).get k=some v'
 | [],k,v,h=>by cases h
 | (k',v')::l,k,v,h=>by
  simp only [qdq,Tree.km]
  by_cases hk:k=k'
  .rw [zT hk];exact ⟨_,rfl⟩
  .rw [zF hk]
   rcases zD.1 h with he | hm
   .cases he;exact absurd rfl hk
   .exact qh9 hm
section
variable {P:Program} {sp:Nat->Option (List V->Heap->Option (CR×Heap))} {n:Nat}
def qbr (G:qi) (ρ:List (Nat×Nat)):qi:=fun nm g=>match assoc ρ nm with
 | some k=>G k g
 | none=>none
def qfj (G G1:qi) (ρ:List (Nat×Nat)) (F:Fact) (next:Nat):qi:=fun k g=>
 if k<next then (match inv ρ k with
  | some nm=>G1 nm g
  | none=>G k g) else if k-next+F.next<F.next' then G1 (k-next+F.next) g else none
structure Fits (F:Fact) (ρ:List (Nat×Nat)) (args:List V) (H:Heap):Prop where
 args:qd6 (assoc ρ) F.args=some args
 qy:H.qy=F.qy
 pre:q1x (assoc ρ) H F.pre=true
 one:ql4 ρ=true
 lt:∀ a b,(a,b) ∈ ρ->a<F.next/\b<H.next
 same:∀ a b,(a,b) ∈ ρ->a<F.qy->b=a
 ro:∀ a b,(a,b) ∈ ρ->F.ro<=a->H.ro<=b
theorem q96 {F:Fact} {ρ:List (Nat×Nat)} {args:List V} {H:Heap} (h:F.fits ρ args H=true):Fits F ρ args H:=by
 simp only [Fact.fits,zA,Nat.beq_eq,List.all_eq_true] at h
 obtain ⟨⟨⟨⟨h1,h2⟩,h3⟩,h4⟩,h5⟩:=h
 have h6:∀ a b,(a,b) ∈ ρ->(a<F.next/\b<H.next)/\(a<F.qy->b=a)/\(F.ro<=a->H.ro<=b):=by
  intro a b hm
  have:=h5 (a,b) hm
  simp only [Nat.blt_eq,Bool.or_eq_true,Bool.not_eq_true',Nat.beq_eq,Nat.ble_eq] at this
  obtain ⟨⟨⟨q1,q2⟩,q3⟩,q4⟩:=this
  refine ⟨⟨q1,q2⟩,fun hl=>?_,fun hl=>?_⟩
  .rcases q3 with q3 | q3
   .rw [<-Bool.not_eq_true,Nat.blt_eq] at q3;exact absurd hl q3
   .exact q3
  .rcases q4 with q4 | q4
   .rw [<-Bool.not_eq_true,Nat.ble_eq] at q4;exact absurd hl q4
   .exact q4
 refine ⟨?_,h2,h3,h4,fun a b hm=>(h6 a b hm).1,fun a b hm=>(h6 a b hm).2.1,fun a b hm=>(h6 a b hm).2.2⟩
 split at h1
 .rename_i u hu
  rw [hu,qj6 h1]
 .cases h1
theorem qdj {G:qi} {ρ:List (Nat×Nat)} {nm g:Nat} {x:Nat×Nat×Nat} (h:qbr G ρ nm g=some x):∃ k,(nm,k) ∈ ρ/\G k g=some x:=by
 unfold qbr at h
 split at h
 .rename_i k hk
  exact ⟨k,qe2 hk,h⟩
 .cases h
theorem q6g {F:Fact} {ρ:List (Nat×Nat)} {args:List V} {H:Heap} {G:qi} {w:World} (hs:Sim H G w) (hf:Fits F ρ args H) (hro:F.ro<=F.next) (hgl:F.qy<=F.ro):Sim F.heap (qbr G ρ) w:=by
 have hm0:∀ nm k,assoc ρ nm=some k->∀ g,G k g=qbr G ρ nm g:=by
  intro nm k hk g
  simp only [qbr,hk]
 refine ⟨fun nm g b sh n h=>?_,fun nm g b sh n nm' g' sh' n' h h'=>?_,fun nm o hl ho=>?_,hro,hgl,fun g o hg ho=>?_⟩
 .obtain ⟨k,h1,h2⟩:=qdj h
  exact ⟨(hs.lt _ _ _ _ _ h2).1,(hf.lt _ _ h1).1⟩
 .obtain ⟨k,h1,h2⟩:=qdj h
  obtain ⟨k',h1',h2'⟩:=qdj h'
  obtain ⟨q1,q2⟩:=hs.inj _ _ _ _ _ _ _ _ _ h2 h2'
  exact ⟨(qih hf.one h1 h1').2 q1,q2⟩
 .obtain ⟨k,o',q1,q2,q3⟩:=qq1 hf.pre (qba _ _ _ ho)
  exact (qc7.ren hm0 q1 q2).2 (hs.obj k o' (hf.lt _ _ (qe2 q1)).2 q3)
 .obtain ⟨k,o',q1,q2,q3⟩:=qq1 hf.pre (qba _ _ _ ho)
  have hk:=hf.same _ _ (qe2 q1) hg
  subst hk
  obtain ⟨m,hm⟩:=hs.globs k o' (by rw [hf.qy];exact hg) q3
  exact ⟨m,by rw [<-hm0 k k q1];exact hm⟩
theorem Fact.zsg {F:Fact} {ρ:List (Nat×Nat)} {args:List V} {H H1:Heap} {G G1:qi} {w w':World} (hs:Sim H G w) (hf:Fits F ρ args H) (hle:F.next<=F.next') (st:Step F.heap (qbr G ρ) w H1 G1 w') (hn:H1.next=F.next') (hpost:q1w H1 F.post=true)
  {l:List (Nat×O)} (hl:qmw (F.names ρ H.next) F.post=some l):Step H G w {H with qa6:=kk (qdq l) (F.qo9 ρ H.next) H.qa6,next:=H.next+(F.next'-F.next)} (qfj G G1 ρ F H.next) w'/\
   ∀ nm k,F.names ρ H.next nm=some k->∀ g,qfj G G1 ρ F H.next k g=G1 nm g:=by
 have hget:∀ nm,({H with qa6:=kk (qdq l) (F.qo9 ρ H.next) H.qa6,next:=H.next+(F.next'-F.next)}:Heap).get nm=if nm ∈ F.qo9 ρ H.next then (qdq l).get nm else H.get nm:=fun nm=>jf _ _ _ _
 have hm1:∀ nm k,F.names ρ H.next nm=some k->∀ g,qfj G G1 ρ F H.next k g=G1 nm g:=by
  intro nm k hk g
  simp only [Fact.names,cond_eq_ite,Nat.ble_eq,Nat.blt_eq] at hk
  split at hk
  .rename_i h1
   split at hk
   .rename_i h2
    cases hk
    have e1:¬ (nm-F.next+H.next<H.next):=by omega
    have e2:nm-F.next+H.next-H.next+F.next=nm:=by omega
    simp only [qfj,zF e1,e2,zT h2]
   .cases hk
  .have hmem:=qe2 hk
   simp only [qfj,zT (hf.lt _ _ hmem).2,q76 hf.one hmem]
 have hin:∀ k nm,inv ρ k=some nm->(nm,k) ∈ ρ/\∀ g,qbr G ρ nm g=G k g:=by
  intro k nm h
  have hmem:=qi1 h
  exact ⟨hmem,fun g=>by simp only [qbr,qg6 hf.one hmem]⟩
 have hout:∀ k g b sh n,inv ρ k=none->G k g=some (b,sh,n)->qg9 (qbr G ρ) b:=by
  intro k g b sh n hk hg nm' g' sh' n' h0
  obtain ⟨k',q1,q2⟩:=qdj h0
  obtain ⟨q3,_⟩:=hs.inj _ _ _ _ _ _ _ _ _ hg q2
  subst q3
  exact qpt hk _ q1
 have hkeep:∀ k g b sh n,inv ρ k=none->G k g=some (b,sh,n)->w'.heap[b]? = w.heap[b]?:=fun k g b sh n hk hg=>(st.ext.frg b (hs.lt _ _ _ _ _ hg).1 (hout k g b sh n hk hg)).1
 have hG':∀ k g x,qfj G G1 ρ F H.next k g=some x->(k<H.next/\((∃ nm,inv ρ k=some nm/\G1 nm g=some x)∨(inv ρ k=none/\G k g=some x)))∨(H.next<=k/\k-H.next+F.next<F.next'/\G1 (k-H.next+F.next) g=some x):=by
  intro k g x h
  simp only [qfj] at h
  split at h
  .rename_i hk
   refine .inl ⟨hk,?_⟩
   split at h
   .rename_i nm hnm;exact .inl ⟨nm,hnm,h⟩
   .rename_i hnm;exact .inr ⟨hnm,h⟩
  .rename_i hk
   split at h
   .rename_i h2;exact .inr ⟨by omega,h2,h⟩
   .cases h
 have hdel:∀ k,k ∈ F.qo9 ρ H.next->(∃ nm o,(nm,o) ∈ F.pre/\F.ro<=nm/\(nm,k) ∈ ρ)∨(H.next<=k/\k<H.next+(F.next'-F.next)):=by
  intro k hk
  rcases List.mem_append.1 hk with hk | hk
  .obtain ⟨x,hx,hx2⟩:=List.mem_filterMap.1 hk
   obtain ⟨hx3,hx4⟩:=List.mem_filter.1 hx
   exact .inl ⟨x.1,x.2,hx3,by simpa using hx4,qe2 hx2⟩
  .exact .inr (by have:=List.mem_range'_1.1 hk;omega)
 have hdel2:∀ nm k o,(nm,o) ∈ F.pre->F.ro<=nm->(nm,k) ∈ ρ->k ∈ F.qo9 ρ H.next:=by
  intro nm k o h1 h2 h3
  refine List.mem_append_left _ (List.mem_filterMap.2 ⟨(nm,o),List.mem_filter.2 ⟨h1,by simpa using h2⟩,qg6 hf.one h3⟩)
 have hlow:∀ k,k<H.ro->k ∉ F.qo9 ρ H.next:=by
  intro k hr hd
  rcases hdel k hd with ⟨nm,o,h1,h2,h3⟩ | ⟨h1,_⟩
  .have:=hf.ro _ _ h3 h2;omega
  .have:=hs.ro;omega
 have hsub:∀ k g x,G k g=some x->qfj G G1 ρ F H.next k g=some x:=by
  intro k g x hx
  obtain ⟨b,sh,m⟩:=x
  have hk:=(hs.lt _ _ _ _ _ hx).2
  simp only [qfj,zT hk]
  split
  .rename_i nm hnm
   exact st.ext.sub _ _ _ (by rw [(hin k nm hnm).2];exact hx)
  .exact hx
 have hpreN:∀ nm,F.heap.get nm=none∨∃ o,(nm,o) ∈ F.pre:=by
  intro nm
  cases hq:F.heap.get nm with
  | none=>exact .inl rfl
  | some o=>exact .inr ⟨o,qba _ _ _ hq⟩
 have hold:∀ k,k<H.next->k ∉ F.qo9 ρ H.next->(∀ g x,qfj G G1 ρ F H.next k g=some x->G k g=some x)/\∀ g b sh n,G k g=some (b,sh,n)->w'.heap[b]? = w.heap[b]?:=by
  intro k hk hd
  cases hq:inv ρ k with
  | none=>
   refine ⟨fun g x hx=>?_,fun g b sh m hg=>hkeep k g b sh m hq hg⟩
   simp only [qfj,zT hk,hq] at hx
   exact hx
  | some nm=>
   obtain ⟨hmem,h0⟩:=hin k nm hq
   have hgo:∀ g,qfj G G1 ρ F H.next k g=G1 nm g:=fun g=>by simp only [qfj,zT hk,hq]
   rcases hpreN nm with hnone | ⟨o,ho⟩
   .obtain ⟨_,q2,q3⟩:=st.frame nm (hf.lt _ _ hmem).1 hnone
    exact ⟨fun g x hx=>by rw [<-h0];exact q3 g x (by rw [<-hgo];exact hx),fun g b sh m hg=>q2 g b sh m (by rw [h0];exact hg)⟩
   .by_cases hr:F.ro<=nm
    .exact absurd (hdel2 nm k o ho hr hmem) hd
    .have hr:nm<F.ro:=by omega
     exact ⟨fun g x hx=>by rw [<-h0];exact st.newG nm g x (by rw [<-hgo];exact hx) hr,fun g b sh m hg=>st.ext.ro nm g b sh m hr (by rw [h0];exact hg)⟩
 have hext:Ext H.ro G w (qfj G G1 ρ F H.next) w':=by
  refine ⟨hsub,fun b hb hfb=>?_,st.ext.size,st.ext.shp,fun k g b sh m hr hg=>?_,st.ext.out⟩
  .have hf0:qg9 (qbr G ρ) b:=by
    intro nm g sh m h0
    obtain ⟨k,_,q2⟩:=qdj h0
    exact hfb k g sh m q2
   obtain ⟨q1,q2⟩:=st.ext.frg b hb hf0
   refine ⟨q1,fun k g sh m hg=>?_⟩
   rcases hG' k g _ hg with ⟨_,⟨nm,_,h1⟩ | ⟨_,h1⟩⟩ | ⟨_,_,h1⟩
   .exact q2 _ _ _ _ h1
   .exact hfb _ _ _ _ h1
   .exact q2 _ _ _ _ h1
  .exact (hold k (hs.lt _ _ _ _ _ hg).2 (hlow k hr)).2 g b sh m hg
 refine ⟨⟨hext,⟨fun k g b sh m hg=>?_,fun k g b sh m k' g' sh' m' hg hg'=>?_,fun k o hk ho=>?_,?_,hs.qy,fun g o hg ho=>?_⟩,by simp only;omega,rfl,rfl,fun k hr=>?_,fun k g x hx hr=>?_,fun k hk hnone=>?_⟩,hm1⟩
 .rcases hG' k g _ hg with ⟨hk,⟨nm,_,h1⟩ | ⟨_,h1⟩⟩ | ⟨hk,hk2,h1⟩
  .exact ⟨(st.sim.lt _ _ _ _ _ h1).1,by simp only;omega⟩
  .exact ⟨zL (hs.lt _ _ _ _ _ h1).1 st.ext.size,by simp only;omega⟩
  .exact ⟨(st.sim.lt _ _ _ _ _ h1).1,by simp only;omega⟩
 .have mixed:∀ {k nm g g' sh sh' m m'},G1 nm g=some (b,sh,m)->inv ρ k=none->G k g'=some (b,sh',m')->False:=by
   intro k nm g g' sh sh' m m' h1 h2 h3
   exact (st.ext.frg b (hs.lt _ _ _ _ _ h3).1 (hout k g' b sh' m' h2 h3)).2 _ _ _ _ h1
  rcases hG' k g _ hg with ⟨hk,⟨nm,hi,h1⟩ | ⟨hi,h1⟩⟩ | ⟨hk,hk2,h1⟩<;>rcases hG' k' g' _ hg' with ⟨hk',⟨nm',hi',h1'⟩ | ⟨hi',h1'⟩⟩ | ⟨hk',hk2',h1'⟩
  .obtain ⟨q1,q2⟩:=st.sim.inj _ _ _ _ _ _ _ _ _ h1 h1'
   exact ⟨(qih hf.one (qi1 hi) (qi1 hi')).1 q1,q2⟩
  .exact (mixed h1 hi' h1').elim
  .obtain ⟨q1,q2⟩:=st.sim.inj _ _ _ _ _ _ _ _ _ h1 h1'
   have:=(hf.lt _ _ (qi1 hi)).1
   omega
  .exact (mixed h1' hi h1).elim
  .exact hs.inj _ _ _ _ _ _ _ _ _ h1 h1'
  .exact (mixed h1' hi h1).elim
  .obtain ⟨q1,q2⟩:=st.sim.inj _ _ _ _ _ _ _ _ _ h1 h1'
   have:=(hf.lt _ _ (qi1 hi')).1
   omega
  .exact (mixed h1 hi' h1').elim
  .obtain ⟨q1,q2⟩:=st.sim.inj _ _ _ _ _ _ _ _ _ h1 h1'
   exact ⟨by omega,q2⟩
 .rw [hget] at ho
  split at ho
  .obtain ⟨nm,o1,p1,p2,p3⟩:=qsu hl (qba _ _ _ ho)
   have hlt:nm<H1.next:=by
    rw [hn]
    simp only [Fact.names,cond_eq_ite,Nat.ble_eq,Nat.blt_eq] at p2
    split at p2
    .split at p2
     .assumption
     .cases p2
    .have:=(hf.lt _ _ (qe2 p2)).1;omega
   exact (qc7.ren hm1 p2 p3).1 (st.sim.obj nm o1 hlt (zcz hpost p1))
  .rename_i hd
   have hk':k<H.next:=by
    by_cases hkn:k<H.next
    .exact hkn
    .exfalso
     apply hd
     refine List.mem_append_right _ (List.mem_range'_1.2 ⟨by omega,?_⟩)
     simp only at hk
     exact hk
   obtain ⟨q1,q2⟩:=hold k hk' hd
   exact (hs.obj k o hk' ho).ext hext q1 q2
 .have:=hs.ro
  simp only
  omega
 .simp only at hg
  rw [hget,zF (hlow g (by have:=hs.qy;omega))] at ho
  obtain ⟨m,hm⟩:=hs.globs g o hg ho
  exact ⟨m,hsub _ _ _ hm⟩
 .rw [hget,zF (hlow k hr)]
 .exact (hold k (by have:=hs.ro;omega) (hlow k hr)).1 g x hx
 .have hd:k ∉ F.qo9 ρ H.next:=by
   intro hd
   rcases hdel k hd with ⟨nm,o,h1,h2,h3⟩ | ⟨h1,_⟩
   .obtain ⟨k',o',q1,q2,q3⟩:=qq1 hf.pre h1
    rw [qg6 hf.one h3] at q1
    cases q1
    rw [hnone] at q3
    cases q3
   .omega
  obtain ⟨q1,q2⟩:=hold k hk hd
  exact ⟨by rw [hget,zF hd];exact hnone,q2,q1⟩
theorem Fact.zpw {F:Fact} (hc:qdi P (qaa (qo P sp) n)) {fn:Func} {c:Code} (hf:P.funcs[F.f]? = some fn) (hname:(fn.name == "runtime.NumGoroutine")=false) (hb:fn.body=some c) (h:F.ok2 (qo P sp) n=true)
  {args:List V} {H H':Heap} {r:CR} (ht:F.qaj args H=some (r,H')) {G:qi} {w:World} {rargs:Array Value} (hs:Sim H G w) (hr:qm G w args rargs.toList) {K:Fence} {m:Nat} (hK:qdc K) :
  CallsIn K m P F.f rargs w fun e w'=>∃ G',Step H G w H' G' w'/\qhy G' w' r e:=by
 unfold Fact.qaj at ht
 obtain ⟨t,k,r0,g⟩:=H
 simp only at ht
 split at ht
 rotate_left
 .cases ht
 rename_i ρ _
 simp only [cond_eq_ite] at ht
 split at ht
 .rename_i hfit
  have hfit:=q96 hfit
  simp only [zI,zM,zP] at ht
  obtain ⟨v',hv',l,hl,rfl,rfl⟩:=ht
  unfold Fact.ok2 at h
  split at h
  .rename_i v H1 hrun
   simp only [zA,Nat.beq_eq,Nat.ble_eq] at h
   obtain ⟨⟨⟨⟨⟨c1,c2⟩,c3⟩,c5⟩,c6⟩,c4⟩:=h
   have hv:=qiv c1
   subst hv
   have hsF:=q6g hs hfit c5 c6
   have hm0:∀ nm k',assoc ρ nm=some k'->∀ g',G k' g'=qbr G ρ nm g':=by
    intro nm k' hk g'
    simp only [qbr,hk]
   have hargs:qm (qbr G ρ) w F.args rargs.toList:=(qm.ren hm0 hfit.args).2 hr
   have hinv:(invoke (.fn (.func F.f) #[]) rargs).run P w=.ok (.enter F.f rargs) w:=by
    have h0:(invoke (.fn (.func F.f) #[]) rargs).run P w=(callFunc F.f (rargs++#[])).run P w:=rfl
    rw [h0,Array.append_empty,qag hf hname hb]
   have hmain:CallsIn K m P F.f rargs w fun e w'=>∃ G',Step F.heap (qbr G ρ) w H1 G' w'/\qhy G' w' (.ret F.ret) e:=by
    rcases hc (.func F.f) F.args F.heap _ H1 hrun (qbr G ρ) w (.fn (.func F.f) #[]) rargs hsF ⟨#[],rfl,by simpa using hargs⟩ with ⟨x,w',G',v,h1,_⟩ | ⟨f',rargs',h1,h2⟩ | ⟨l,f',t',a',b',h1,_⟩
    .rw [hinv] at h1;cases h1
    .rw [hinv] at h1;cases h1;exact h2 K m hK
    .rw [hinv] at h1;cases h1
   refine hmain.mono fun e w' ⟨G1,st,se⟩=>?_
   obtain ⟨st',hm1⟩:=Fact.zsg hs hfit c3 st c2 c4 hl
   obtain ⟨x,rfl,hx⟩:=se
   exact ⟨_,st',x,rfl,(Rel.ren hm1 hv').1 hx⟩
  .cases h
 .cases ht
def qm4:List Fact->Nat->List V->Heap->Option (CR×Heap)
 | [],_,_,_=>none
 | F::l,f,args,H=>bif Nat.beq F.f f then (match F.qaj args H with
   | some r=>some r
   | none=>qm4 l f args H) else qm4 l f args H
def ja (l:List Fact) (f:Nat):Option (List V->Heap->Option (CR×Heap)):=
 bif l.any (fun F=>Nat.beq F.f f) then some (qm4 l f) else none
theorem qkt:∀ {l:List Fact} (_:∀ F ∈ l,zm P F.f F.qaj) (f:Nat),zm P f (qm4 l f)
 | [],_,f=>fun args H r H' ht=>by simp [qm4] at ht
 | F::l,hl,f=>fun args H r H' ht=>by
  simp only [qm4,cond_eq_ite] at ht
  split at ht
  .rename_i hf
   rw [Nat.beq_eq] at hf
   subst hf
   split at ht
   .rename_i r' ht'
    cases ht
    exact hl F zC args H r H' ht'
   .exact qkt (fun F' h=>hl F' (zG _ h)) F.f args H r H' ht
  .exact qkt (fun F' h=>hl F' (zG _ h)) f args H r H' ht
theorem qza (hm:P.follows .mixedOrders=true) (hok:qkp P=true) {l:List Fact} (hl:∀ F ∈ l,zm P F.f F.qaj) (k:Nat):qdi P (qaa (qo P (ja l)) k):=by
 refine qax hm (zm0 hok) (q9m hok) (fun f s hsp=>?_) k
 unfold ja at hsp
 rw [cond_eq_ite] at hsp
 split at hsp
 .cases hsp
  exact qkt hl f
 .cases hsp
theorem zd:∀ F ∈ ([]:List Fact),zm P F.f F.qaj:=fun F h=>by cases h
theorem qd {F:Fact} {l:List Fact} (h:zm P F.f F.qaj) (hl:∀ F ∈ l,zm P F.f F.qaj):∀ F' ∈ F::l,zm P F'.f F'.qaj:=by
 intro F' hF
 rcases zD.1 hF with rfl | hF
 .exact h
 .exact hl F' hF
theorem qw (hm:P.follows .mixedOrders=true) (hok:qkp P=true) {l:List Fact} (hl:∀ F ∈ l,zm P F.f F.qaj) {F:Fact} (hb:qkb (qo P fun _=>none) F.f=true) (h:F.ok2 (qo P (ja l)) n=true):zm P F.f F.qaj:=by
 intro args H r H' ht G w rargs hs hr
 obtain ⟨fn,c,h1,h2,h3⟩:=qn2 hb
 exact ⟨fn,c,h1,h2,h3,fun K m hK=>Fact.zpw (qza hm hok hl n) h1 h2 h3 h ht hs hr hK⟩
def Fact.q6n (F:Fact) (args:List V) (H:Heap):Option (CR×Heap):=
 bif F.fits (F.pre.map fun x=>(x.1,x.1)) args H&&Nat.beq F.ro F.next&&qj7 F.ret ((qfp (fun _=>none) F.ret).getD (.tuple [.nilp])) then some (.ret F.ret,H) else none
theorem Fact.zsf {F:Fact} {ρ:List (Nat×Nat)} {args:List V} {H H1:Heap} {G G1:qi} {w w':World} (hs:Sim H G w) (hf:Fits F ρ args H) (hro:F.ro=F.next) (st:Step F.heap (qbr G ρ) w H1 G1 w'):Step H G w H G w':=by
 have hsame:∀ k g b sh n,G k g=some (b,sh,n)->w'.heap[b]? = w.heap[b]?:=by
  intro k g b sh n hg
  cases hq:inv ρ k with
  | some nm=>
   have hmem:=qi1 hq
   refine st.ext.ro nm g b sh n (show nm<F.ro by rw [hro];exact (hf.lt _ _ hmem).1) ?_
   simp only [qbr,qg6 hf.one hmem]
   exact hg
  | none=>
   refine (st.ext.frg b (hs.lt _ _ _ _ _ hg).1 ?_).1
   intro nm' g' sh' n' h0
   obtain ⟨k',q1,q2⟩:=qdj h0
   obtain ⟨q3,_⟩:=hs.inj _ _ _ _ _ _ _ _ _ hg q2
   subst q3
   exact qpt hq _ q1
 have hext:Ext H.ro G w G w':=by
  refine ⟨fun _ _ _ h=>h,fun b hb hfb=>⟨(st.ext.frg b hb ?_).1,hfb⟩,st.ext.size,st.ext.shp,fun k g b sh m _ hg=>hsame k g b sh m hg,st.ext.out⟩
  intro nm g sh m h0
  obtain ⟨k,_,q2⟩:=qdj h0
  exact hfb k g sh m q2
 exact ⟨hext,⟨fun k g b sh m hg=>⟨zL (hs.lt _ _ _ _ _ hg).1 st.ext.size,(hs.lt _ _ _ _ _ hg).2⟩,hs.inj,fun k o hk ho=>(hs.obj k o hk ho).ext hext (fun _ _ h=>h) (fun g b sh m hg=>hsame k g b sh m hg),hs.ro,hs.qy,hs.globs⟩,
  zN _,rfl,rfl,fun _ _=>rfl,fun _ _ _ h _=>h,fun k _ h=>⟨h,fun g b sh m hg=>hsame k g b sh m hg,fun _ _ h=>h⟩⟩
theorem Fact.zpv {F:Fact} (hc:qdi P (qaa (qo P sp) n)) {fn:Func} {c:Code} (hf:P.funcs[F.f]? = some fn) (hname:(fn.name == "runtime.NumGoroutine")=false) (hb:fn.body=some c) (h:F.ok2 (qo P sp) n=true)
  {args:List V} {H H':Heap} {r:CR} (ht:F.q6n args H=some (r,H')) {G:qi} {w:World} {rargs:Array Value} (hs:Sim H G w) (hr:qm G w args rargs.toList) {K:Fence} {m:Nat} (hK:qdc K) :
  CallsIn K m P F.f rargs w fun e w'=>∃ G',Step H G w H' G' w'/\qhy G' w' r e:=by
 unfold Fact.q6n at ht
 simp only [cond_eq_ite,zA,Nat.beq_eq] at ht
 split at ht
 .rename_i hb0
  obtain ⟨⟨hfit,hro⟩,hret⟩:=hb0
  cases ht
  have hfit:=q96 hfit
  generalize (F.pre.map fun x=>(x.1,x.1))=ρ at hfit
  unfold Fact.ok2 at h
  split at h
  .rename_i v H1 hrun
   simp only [zA,Nat.beq_eq,Nat.ble_eq] at h
   obtain ⟨⟨⟨⟨⟨c1,c2⟩,c3⟩,c5⟩,c6⟩,c4⟩:=h
   have hv:=qiv c1
   subst hv
   have hsF:=q6g hs hfit c5 c6
   have hm0:∀ nm k',assoc ρ nm=some k'->∀ g',G k' g'=qbr G ρ nm g':=by
    intro nm k' hk g'
    simp only [qbr,hk]
   have hargs:qm (qbr G ρ) w F.args rargs.toList:=(qm.ren hm0 hfit.args).2 hr
   have hinv:(invoke (.fn (.func F.f) #[]) rargs).run P w=.ok (.enter F.f rargs) w:=by
    have h0:(invoke (.fn (.func F.f) #[]) rargs).run P w=(callFunc F.f (rargs++#[])).run P w:=rfl
    rw [h0,Array.append_empty,qag hf hname hb]
   have hmain:CallsIn K m P F.f rargs w fun e w'=>∃ G',Step F.heap (qbr G ρ) w H1 G' w'/\qhy G' w' (.ret F.ret) e:=by
    rcases hc (.func F.f) F.args F.heap _ H1 hrun (qbr G ρ) w (.fn (.func F.f) #[]) rargs hsF ⟨#[],rfl,by simpa using hargs⟩ with ⟨x,w',G',v,h1,_⟩ | ⟨f',rargs',h1,h2⟩ | ⟨l,f',t',a',b',h1,_⟩
    .rw [hinv] at h1;cases h1
    .rw [hinv] at h1;cases h1;exact h2 K m hK
    .rw [hinv] at h1;cases h1
   refine hmain.mono fun e w' ⟨G1,st,se⟩=>?_
   obtain ⟨x,rfl,hx⟩:=se
   refine ⟨G,Fact.zsf hs hfit hro st,x,rfl,?_⟩
   cases hq:qfp (fun _=>none) F.ret with
   | none=>
    rw [hq] at hret
    have he:=qiv hret
    simp only [Option.getD_none] at he
    rw [he] at hx ⊢
    simp only [Rel,qm] at hx ⊢
    exact hx
   | some u=>
    rw [hq] at hret
    have he:=qiv hret
    simp only [Option.getD_some] at he
    rw [<-he] at hq
    exact (Rel.ren (m:=fun _=>none) (G2:=G) (fun _ _ h=>by cases h) hq).1 hx
  .cases h
 .cases ht
theorem q73 (hm:P.follows .mixedOrders=true) (hok:qkp P=true) {l:List Fact} (hl:∀ F ∈ l,zm P F.f F.qaj) {F:Fact} (hb:qkb (qo P fun _=>none) F.f=true) (h:F.ok2 (qo P (ja l)) n=true):zm P F.f F.q6n:=by
 intro args H r H' ht G w rargs hs hr
 obtain ⟨fn,c,h1,h2,h3⟩:=qn2 hb
 exact ⟨fn,c,h1,h2,h3,fun K m hK=>Fact.zpv (qza hm hok hl n) h1 h2 h3 h ht hs hr hK⟩
end
end Go.E2
