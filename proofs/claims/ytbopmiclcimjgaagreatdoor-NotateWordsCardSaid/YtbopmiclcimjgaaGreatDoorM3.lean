/- A VERIFIED EVALUATOR, texts E2y in one. -/
import Derived.Test.YtbopmiclcimjgaaGreatDoorM2
/- E2: RUNS OF E2's THAT NEED SO MUCH AND NO MORE: rules for code, one after the other, for proofs about whatever arguments. -/
namespace Go.E2
open Go
def zjy (E:Env) (t:Tgt) (args:List V) (H:Heap) (y:CR×Heap):Prop:=∃ k0,∀ k,k0<=k->jv E k t args H=some y
def qb5 (E:Env) (t:Tgt) (args:List V) (H:Heap) (Q:V->Heap->Prop):Prop:=∃ v H',zjy E t args H (.ret v,H')/\Q v H'
def Wp (E:Env) (fn:FuncId) (round:Option Nat) (c:Code) (fr:Fr) (H:Heap) (Q:Ex->Fr->Heap->Prop):Prop:=
 ∃ x,(∃ k0,∀ k,k0<=k->zf E (jv E k) fn round (k+1) c fr H=some x)/\Q x.1 x.2.1 x.2.2
def WpO (E:Env) (nd:Bool) (all:Array Oper) (l:List Oper) (fr:Fr) (H:Heap) (Q:Ex->Fr->Heap->Prop):Prop:=
 ∃ x,(∃ k0,∀ k,k0<=k->qdc E (jv E k) nd all l fr H=some x)/\Q x.1 x.2.1 x.2.2
section
variable {E:Env} {fn:FuncId} {round:Option Nat} {nd:Bool} {all:Array Oper} {fr:Fr} {H:Heap} {Q:Ex->Fr->Heap->Prop}
theorem qb5.mono {t:Tgt} {args:List V} {Q Q':V->Heap->Prop} (h:qb5 E t args H Q) (hq:∀ v H',Q v H'->Q' v H'):qb5 E t args H Q':=by
 obtain ⟨v,H',h1,h2⟩:=h
 exact ⟨v,H',h1,hq _ _ h2⟩
theorem Wp.mono {c:Code} {Q':Ex->Fr->Heap->Prop} (h:Wp E fn round c fr H Q) (hq:∀ ex fr' H',Q ex fr' H'->Q' ex fr' H'):Wp E fn round c fr H Q':=by
 obtain ⟨x,h1,h2⟩:=h
 exact ⟨x,h1,hq _ _ _ h2⟩
theorem WpO.mono {l:List Oper} {Q':Ex->Fr->Heap->Prop} (h:WpO E nd all l fr H Q) (hq:∀ ex fr' H',Q ex fr' H'->Q' ex fr' H'):WpO E nd all l fr H Q':=by
 obtain ⟨x,h1,h2⟩:=h
 exact ⟨x,h1,hq _ _ _ h2⟩
theorem zhk (h:Q .normal fr H):Wp E fn round .skip fr H Q:=⟨(.normal,fr,H),⟨0,fun _ _=>rfl⟩,h⟩
theorem zeh {l:Nat} (h:Q .normal fr H):Wp E fn round (.label l) fr H Q:=⟨(.normal,fr,H),⟨0,fun _ _=>rfl⟩,h⟩
theorem zej (h:Q .ret fr H):Wp E fn round .ret fr H Q:=⟨(.ret,fr,H),⟨0,fun _ _=>rfl⟩,h⟩
theorem zhi {id:Nat} (h:Q (.exit id) fr H):Wp E fn round (.exit id) fr H Q:=⟨(.exit id,fr,H),⟨0,fun _ _=>rfl⟩,h⟩
def qxm (next:Fr->Heap->Prop) (Q:Ex->Fr->Heap->Prop):Ex->Fr->Heap->Prop
 | .normal,fr,H=>next fr H
 | e,fr,H=>Q e fr H
theorem qy9 {a b:Code} (h:Wp E fn round a fr H (qxm (fun fr' H'=>Wp E fn round b fr' H' Q) Q)):Wp E fn round (.seq a b) fr H Q:=by
 obtain ⟨⟨e,fr',H'⟩,⟨k0,h1⟩,h2⟩:=h
 cases e with
 | normal=>
  obtain ⟨x,⟨k1,h3⟩,h4⟩:=h2
  exact ⟨x,⟨max k0 k1,fun k hk=>by simp only [zf,h1 k (by omega),h3 k (by omega)]⟩,h4⟩
 | _=>exact ⟨_,⟨k0,fun k hk=>by simp only [zf,h1 k hk]⟩,h2⟩
theorem zhh {c:Operand} {a b:Code} {t:Bool} (hc:opd fr H c=some (.bool t)) (h:Wp E fn round (if t then a else b) fr H Q):Wp E fn round (.cond c a b) fr H Q:=by
 obtain ⟨x,⟨k0,h1⟩,h2⟩:=h
 refine ⟨x,⟨k0,fun k hk=>?_⟩,h2⟩
 have:=h1 k hk
 cases t<;>simp only [zf,hc]<;>exact this
def qms (id:Nat) (Q:Ex->Fr->Heap->Prop):Ex->Fr->Heap->Prop
 | .exit id',fr,H=>if id'=id then Q .normal fr H else Q (.exit id') fr H
 | e,fr,H=>Q e fr H
theorem zeg {id:Nat} {c:Code} (h:Wp E fn round c fr H (qms id Q)):Wp E fn round (.block id c) fr H Q:=by
 obtain ⟨⟨e,fr',H'⟩,⟨k0,h1⟩,h2⟩:=h
 cases e with
 | exit id'=>
  simp only [qms] at h2
  by_cases hid:id'=id
  .rw [if_pos hid] at h2
   subst hid
   have hb:Nat.beq id' id'=true:=by rw [Nat.beq_eq]
   exact ⟨(.normal,fr',H'),⟨k0,fun k hk=>by simp only [zf,h1 k hk,hb,cond_true]⟩,h2⟩
  .rw [if_neg hid] at h2
   have hb:Nat.beq id' id=false:=by
    cases hq:Nat.beq id' id with
    | false=>rfl
    | true=>exact absurd (Nat.eq_of_beq_eq_true hq) hid
   exact ⟨(.exit id',fr',H'),⟨k0,fun k hk=>by simp only [zf,h1 k hk,hb,cond_false]⟩,h2⟩
 | _=>exact ⟨_,⟨k0,fun k hk=>by simp only [zf,h1 k hk]⟩,h2⟩
theorem zek {c:Code} (h:Wp E fn round c fr H (fun e fr' H'=>(∀ l,e≠.goto l)/\Q e fr' H')):Wp E fn round (.scope c) fr H Q:=by
 obtain ⟨⟨e,fr',H'⟩,⟨k0,h1⟩,h2,h3⟩:=h
 refine ⟨(e,fr',H'),⟨k0,fun k hk=>?_⟩,h3⟩
 simp only [zf,h1 k hk]
 all_goals first
  | rfl
  | (cases e with
   | goto l=>exact absurd rfl (h2 l)
   | _=>rfl)
theorem qse {c:Code} (Inv:Nat->Fr->Heap->Prop) {m:Nat} (h0:Inv m fr H)
  (h:∀ m fr H,Inv m fr H->Wp E fn round c fr H (qxm (fun fr' H'=>∃ m',m'<m/\Inv m' fr' H') Q)):Wp E fn round (.loop c) fr H Q:=by
 have key:∀ (m:Nat) (fr:Fr) (H:Heap) (s0:Ex),Inv m fr H->∃ x,(∃ k0 r,∀ k,k0<=k->∀ f,r<f->iter (fun (s:Ex×Fr×Heap)=>match zf E (jv E k) fn round (k+1) c s.2.1 s.2.2 with
   | some (.normal,fr',H')=>some (true,.normal,fr',H')
   | some r=>some (false,r)
   | none=>none) f (s0,fr,H)=some x)/\Q x.1 x.2.1 x.2.2:=by
  intro m
  induction m using Nat.strongRecOn with
  | _ m ih=>
   intro fr H s0 hi
   obtain ⟨⟨e,fr',H'⟩,⟨k0,h1⟩,h2⟩:=h m fr H hi
   cases e with
   | normal=>
    obtain ⟨m',hm,hi'⟩:=h2
    obtain ⟨x,⟨k1,r,h3⟩,h4⟩:=ih m' hm fr' H' .normal hi'
    refine ⟨x,⟨max k0 k1,r+1,fun k hk f hf=>?_⟩,h4⟩
    obtain ⟨f,rfl⟩:∃ g,f=g+1:=⟨f-1,by omega⟩
    simp only [iter,h1 k (by omega)]
    exact h3 k (by omega) f (by omega)
   | _=>
    refine ⟨_,⟨k0,0,fun k hk f hf=>?_⟩,h2⟩
    obtain ⟨f,rfl⟩:∃ g,f=g+1:=⟨f-1,by omega⟩
    simp only [iter,h1 k hk]
 obtain ⟨x,⟨k0,r,h1⟩,h2⟩:=key m fr H .normal h0
 exact ⟨x,⟨max k0 r,fun k hk=>by simp only [zf];exact h1 k (by omega) (k+1) (by omega)⟩,h2⟩
theorem qxs {id:Nat} {ops:Array Oper} (h:WpO E round.isNone ops ops.toList fr H Q):Wp E fn round (.region id ops false) fr H Q:=by
 obtain ⟨x,⟨k0,h1⟩,h2⟩:=h
 exact ⟨x,⟨k0,fun k hk=>by simp only [zf,cond_false];exact h1 k hk⟩,h2⟩
theorem q7p (h:Q .normal fr H):WpO E nd all [] fr H Q:=⟨(.normal,fr,H),⟨0,fun _ _=>rfl⟩,h⟩
def qgz (o:Oper):Bool:=match o.op with | .defer _=>true | _=>false
theorem qlw {call:Call} {o:Oper} {l:List Oper} (hd:qgz o=false):qdc E call nd all (o::l) fr H=match qds E call all o fr H with
   | some (.ret v,H')=>qdc E call nd all l (fr.put o.dst v) H'
   | some (.panic ch,H')=>some (.panic ch,fr,H')
   | none=>none:=by
 simp only [qdc]
 split
 .rename_i c ho
  simp [qgz,ho] at hd
 .rfl
theorem qiv {o:Oper} {l:List Oper} {v:V} {H':Heap} (hd:qgz o=false) (hw:qbm o all fr=some true) (h:z8 E o fr H=some (.val v,H')) (k:WpO E nd all l (fr.put o.dst v) H' Q):WpO E nd all (o::l) fr H Q:=by
 obtain ⟨x,⟨k0,h1⟩,h2⟩:=k
 exact ⟨x,⟨k0,fun k hk=>by rw [qlw hd];simp only [qds,hw,h];exact h1 k hk⟩,h2⟩
theorem qu7 {o:Oper} {l:List Oper} {H':Heap} (hd:qgz o=false) (hw:qbm o all fr=some true) (h:z8 E o fr H=some (.skip,H')) (k:WpO E nd all l (fr.put o.dst k8) H' Q):WpO E nd all (o::l) fr H Q:=by
 obtain ⟨x,⟨k0,h1⟩,h2⟩:=k
 exact ⟨x,⟨k0,fun k hk=>by rw [qlw hd];simp only [qds,hw,h];exact h1 k hk⟩,h2⟩
theorem zhl {o:Oper} {l:List Oper} (hd:qgz o=false) (hw:qbm o all fr=some false) (k:WpO E nd all l (fr.put o.dst k8) H Q):WpO E nd all (o::l) fr H Q:=by
 obtain ⟨x,⟨k0,h1⟩,h2⟩:=k
 exact ⟨x,⟨k0,fun k hk=>by rw [qlw hd];simp only [qds,hw];exact h1 k hk⟩,h2⟩
theorem zen {o:Oper} {l:List Oper} {t:Tgt} {args:List V} {H1:Heap} (hd:qgz o=false) (hw:qbm o all fr=some true) (h:z8 E o fr H=some (.call t args,H1))
  (k:qb5 E t args H1 fun v H'=>WpO E nd all l (fr.put o.dst v) H' Q):WpO E nd all (o::l) fr H Q:=by
 obtain ⟨v,H',⟨k1,h3⟩,⟨x,⟨k0,h1⟩,h2⟩⟩:=k
 refine ⟨x,⟨max k0 k1,fun k hk=>?_⟩,h2⟩
 rw [qlw hd]
 simp only [qds,hw,h,h3 k (by omega)]
 exact h1 k (by omega)
theorem qs1 {f:Nat} {args:List V} {s:List V->Heap->Option (CR×Heap)} {v:V} {H':Heap} {Q:V->Heap->Prop} (hs:E.spec f=some s) (h:s args H=some (.ret v,H')) (hq:Q v H'):qb5 E (.func f) args H Q:=
 ⟨v,H',⟨1,fun k hk=>by
  obtain ⟨k,rfl⟩:∃ g,k=g+1:=⟨k-1,by omega⟩
  simp only [jv,hs,h]⟩,hq⟩
def qbx:List Dfr->Heap->Option Heap
 | [],H=>some H
 | .mark nm::ds,H=>match H.get nm with
  | some .dfr=>(H.upd nm .gone).bind fun H'=>qbx ds H'
  | _=>none
 | .call _::_,_=>none
theorem qq6 {call:Call} {fuel:Nat} {md:Md}:∀ {ds:List Dfr} {H H':Heap},qbx ds H=some H'->leave E call fuel ds md H=some (md,H')
 | [],H,H',h=>by simp only [qbx,Option.some.injEq] at h;simp [leave,h]
 | .mark nm::ds,H,H',h=>by
  simp only [qbx] at h
  simp only [leave]
  split at h
  .rename_i ho
   rw [ho]
   simp only [Option.bind_eq_some_iff] at h ⊢
   obtain ⟨H1,h1,h2⟩:=h
   exact ⟨H1,h1,qq6 h2⟩
  .cases h
 | .call d::ds,H,H',h=>by simp [qbx] at h
theorem qs0 {f:Nat} {fi:FI} {c:Code} {args:List V} {Q:V->Heap->Prop} (hs:E.spec f=none) (hf:E.funcs f=some fi) (hb:fi.body=some c)
  (h:Wp E f none c {tmps:=qdh args,n:=max args.length fi.ntmps,defers:=[]} H fun e fr' H'=>(e=.normal∨e=.ret)/\∃ H'',qbx fr'.defers H'=some H''/\∃ vs,kl E fr' H'' fi.results=some vs/\Q (oneOf vs) H''):qb5 E (.func f) args H Q:=by
 obtain ⟨⟨e,fr',H'⟩,⟨k0,h1⟩,h2,H'',h3,vs,h4,h5⟩:=h
 refine ⟨oneOf vs,H'',⟨k0+1,fun k hk=>?_⟩,h5⟩
 obtain ⟨k,rfl⟩:∃ g,k=g+1:=⟨k-1,by omega⟩
 have hwo:qzb E (jv E k) (k+1) (e,fr',H')=some (.returning,fr',H''):=by
  have hl:=qq6 (E:=E) (call:=jv E k) (fuel:=k+1) (md:=.returning) h3
  rcases h2 with rfl | rfl<;>simp [qzb,hl]
 simp only [jv,hs,hf,hb,Option.bind_some,h1 k (by omega),hwo,qkz,h4,Option.map_some]
theorem qwb {f:Nat} {fi:FI} {args:List V} {v:V} {Q:V->Heap->Prop} (hs:E.spec f=none) (hf:E.funcs f=some fi) (hb:fi.body=none) (h:q8h fi.ext args=some v) (hq:Q v H):qb5 E (.func f) args H Q:=
 ⟨v,H,⟨1,fun k hk=>by
  obtain ⟨k,rfl⟩:∃ g,k=g+1:=⟨k-1,by omega⟩
  simp only [jv,hs,hf,hb,Option.bind_some,h,Option.map_some]⟩,hq⟩
structure Upd (fr:Fr) (d:Nat) (v:V) (fr':Fr):Prop where
 get:fr'.tmp d=some v
 other:∀ j,Nat.beq j d=false->fr'.tmp j=fr.tmp j
 n:fr'.n=fr.n
 ds:fr'.defers=fr.defers
theorem qoq {d:Nat} {v:V} (h:d<fr.n):Upd fr d v (fr.put (some d) v):=by
 obtain ⟨t,n,ds⟩:=fr
 have hb:Nat.blt d n=true:=by rw [Nat.blt_eq];exact h
 refine ⟨?_,fun j hj=>?_,?_,?_⟩
 .simp only [Fr.put,hb,cond_true,Fr.tmp,Tree.kg,if_true]
 .have hne:¬ j=d:=by
   intro he
   rw [he] at hj
   have:Nat.beq d d=true:=by rw [Nat.beq_eq]
   rw [this] at hj
   cases hj
  simp only [Fr.put,hb,cond_true,Fr.tmp,Tree.kg,if_neg hne]
 .simp only [Fr.put,hb,cond_true]
 .simp only [Fr.put,hb,cond_true]
theorem qhf {o:Oper} (hg:o.guard=none):qbm o all fr=some true:=by simp only [qbm,hg]
theorem q7m {o:Oper} {j d:Nat} {want b:Bool} (hg:o.guard=some (j,want)) (hj:(all[j]?).bind (·.dst)=some d) (hv:fr.tmp d=some (.bool b)):qbm o all fr=some (b == want):=by
 simp only [qbm,hg,hj,hv]
theorem q5b {o:Oper} {j d:Nat} {want:Bool} (hg:o.guard=some (j,want)) (hj:(all[j]?).bind (·.dst)=some d) (hv:fr.tmp d=some k8):qbm o all fr=some false:=by
 simp only [qbm,hg,hj,hv,k8]
theorem zjx {o:Oper} {l:List Oper} {v:V} {H':Heap} {d:Nat} (hd:qgz o=false) (hw:qbm o all fr=some true) (hdst:o.dst=some d) (hn:d<fr.n) (h:z8 E o fr H=some (.val v,H')) (k:∀ fr',Upd fr d v fr'->WpO E nd all l fr' H' Q):WpO E nd all (o::l) fr H Q:=
 qiv hd hw h (by rw [hdst];exact k _ (qoq hn))
theorem qfg {t:Nat} {v:V} (h:fr.tmp t=some v):opd fr H (.tmp t)=some v:=h
theorem q9c {c:Value} {v:V} (h:qkk 1000 c=some v):opd fr H (.const c)=some v:=h
theorem zc3:qa3 fr H []=some []:=rfl
theorem qp3 {x:Operand} {l:List Operand} {v:V} {vs:List V} (h:opd fr H x=some v) (h':qa3 fr H l=some vs):qa3 fr H (x::l)=some (v::vs):=by
 simp only [qa3,h,h',Option.bind_some,Option.map_some]
section
variable {o:Oper}
theorem q54 {x:Operand} {v:V} (ho:o.op=.move x) (hx:opd fr H x=some v):z8 E o fr H=some (.val v,H):=by simp only [z8,ho,hx,Option.map_some]
theorem qwg {x:Operand} {v:V} (ho:o.op=.assign x) (hx:opd fr H x=some v):z8 E o fr H=some (.val v,H):=by simp only [z8,ho,hx,Option.map_some]
theorem q9b {x:Operand} {v:V} (h:opd fr H x=some v):qi2 fr H (some x)=some (some v):=by simp only [qi2,h,Option.map_some]
theorem qz0 {lo hi d:Nat} {k:IntKind} {i:Int} (h:(lo:Int)<=i/\i<=hi):jo lo hi (some (.int k i)) d=some i.toNat:=by simp only [jo,h,and_self,if_true]
end
theorem zg3:kl E fr H []=some []:=rfl
theorem zg4 {t:Nat} {v:V} {rs:List ResultVar} {vs:List V} (h:fr.tmp t=some v) (h':kl E fr H rs=some vs):kl E fr H (.tmp t::rs)=some (v::vs):=by
 simp only [kl,h,h',Option.bind_some,Option.map_some]
theorem ends {rs:List ResultVar} {vs:List V} {R:V->Heap->Prop} (hd:fr.defers=[]) (hr:kl E fr H rs=some vs) (h:R (oneOf vs) H):∃ H'',qbx fr.defers H=some H''/\∃ vs,kl E fr H'' rs=some vs/\R (oneOf vs) H'':=
 ⟨H,by rw [hd];rfl,vs,hr,h⟩
theorem zj2 (hd:fr.defers=[]):qbx fr.defers H=some H:=by rw [hd];rfl
theorem q2m {next:Fr->Heap->Prop} (h:next fr H):qxm next Q .normal fr H:=h
theorem qzz {id id':Nat} (hn:¬ id'=id) (h:Q (.exit id') fr H):qms id Q (.exit id') fr H:=by
 simp only [qms,if_neg hn]
 exact h
theorem q3s {id:Nat} (h:Q .normal fr H):qms id Q (.exit id) fr H:=by
 simp only [qms,if_true]
 exact h
theorem qbg {t:Nat} {l:List Nat} (h:t ∈ l):({fr with tmps:=ke fr.tmps l .nil}:Fr).tmp t=fr.tmp t:=by
 simp only [Fr.tmp,ja,h,if_true]
theorem qnk {o:Oper}:qbm o all {fr with tmps:=ke fr.tmps (o.looksAt all) .nil}=qbm o all fr:=by
 unfold qbm
 split
 .rfl
 .rename_i j want hg
  split
  .rfl
  .rename_i d hd
   rw [qbg]
   simp [Oper.looksAt,hg,hd]
def zl (b:Array Nat) (i:Nat) (done:List Done):List Done:=done.filter fun d=>!(b.getD i 0).testBit d.i
theorem qmt {d:Done} {l:List Nat}:qbb d l .none=false:=by
 obtain ⟨i,fp,lo,hi,ds⟩:=d
 cases fp<;>rfl
theorem qhu {dels:List Nat}:qat H (zm H .none dels) .none dels=H:=by
 simp only [qat,zm,Nat.sub_self,List.range'_zero,ke]
theorem qz3 {P:Program} {sp:Nat->Option (List V->Heap->Option (CR×Heap))} (hm:P.follows .mixedOrders=true) (hok:qjz P=true) (hsp:∀ f s,sp f=some s->qac P f s) {f:FuncId} {g:Func} {c:Code} (hf:P.funcs[f]? = some g) (hname:(g.name == "runtime.NumGoroutine")=false) (hb:g.body=some c)
  {args:List V} {rargs:Array Value} {G:qc} {W:World} {R:V->Heap->Prop} (hs:Sim H G W) (hr:qi G W args rargs.toList) (h:qb5 (qz P sp) (.func f) args H R) :
  Calls P f rargs W fun e w'=>∃ v H' x G',R v H'/\e=.returned x/\Rel G' w' v x/\Step H G W H' G' w':=by
 obtain ⟨v,H',⟨k0,h1⟩,h2⟩:=h
 have hc:qc6 P (jv (qz P sp) k0):=qae hm (zho hok) (q5n hok) hsp k0
 refine (hc.calls hf hname hb (h1 k0 (Nat.le_refl _)) hs hr).mono fun e w' ⟨G',st,se⟩=>?_
 obtain ⟨x,rfl,hx⟩:=se
 exact ⟨v,H',x,G',h2,rfl,hx,st⟩
theorem qwd {args:List V} {n:Nat} {ds:List Dfr} {i:Nat} {v:V} (h:args[i]? = some v):({tmps:=qdh args,n:=n,defers:=ds}:Fr).tmp i=some v:=by
 simp only [Fr.tmp,qdh,Tree.qm1,h]
def WpD (E:Env) (all:Array Oper) (b:Array Nat) (i:Nat) (l:List Oper) (done:List Done) (fr:Fr) (H:Heap) (Q:Ex->Fr->Heap->Prop):Prop:=
 ∃ x:Fr×Heap,(∃ k0,∀ k,k0<=k->qbv E (jv E k) all b i l done fr H=some x)/\Q .normal x.1 x.2
theorem q2p {id:Nat} {ops:Array Oper} (h:WpD E ops (Region.before ops) 0 ops.toList [] fr H Q):Wp E fn round (.region id ops true) fr H Q:=by
 obtain ⟨x,⟨k0,h1⟩,h2⟩:=h
 exact ⟨(.normal,x.1,x.2),⟨k0,fun k hk=>by simp only [zf,cond_true,h1 k hk,Option.map_some]⟩,h2⟩
section
variable {b:Array Nat} {i:Nat} {l:List Oper} {done:List Done} {o:Oper}
theorem q7n (h:Q .normal fr H):WpD E all b i [] done fr H Q:=⟨(fr,H),⟨0,fun _ _=>rfl⟩,h⟩
theorem qbn {fp:FP} {out:Out} {v:V} {K:Heap} (hw:qbm o all fr=some true) (hfp:qfv E o fr=fp) (hnc:fp≠.call) (hcl:((zl b i done).any fun d=>qbb d ((zl b i done).flatMap Done.names) fp)=false)
  (hev:z8 E o {fr with tmps:=ke fr.tmps (o.looksAt all) .nil} (zm H fp ((zl b i done).flatMap Done.names))=some (out,K)) (hout:out=.val v∨(out=.skip/\v=k8)) (hlt:H.next<=K.next)
  (k:WpD E all b (i+1) l (⟨i,fp,H.next,K.next,(zl b i done).flatMap Done.names⟩::done) (fr.put o.dst v) (qat H K fp ((zl b i done).flatMap Done.names)) Q):WpD E all b i (o::l) done fr H Q:=by
 obtain ⟨x,⟨k0,h1⟩,h2⟩:=k
 refine ⟨x,⟨k0,fun k hk=>?_⟩,h2⟩
 have hb:Nat.blt K.next H.next=false:=by
  rw [<-Bool.not_eq_true,Nat.blt_eq]
  omega
 have hr:qds E (jv E k) all o {fr with tmps:=ke fr.tmps (o.looksAt all) .nil} (zm H fp ((zl b i done).flatMap Done.names))=some (.ret v,K):=by
  rcases hout with rfl | ⟨rfl,rfl⟩<;>simp only [qds,qnk,hw,hev]
 have hcl':((done.filter fun d=>!(b.getD i 0).testBit d.i).any fun d=>qbb d ((done.filter fun d=>!(b.getD i 0).testBit d.i).flatMap Done.names) fp)=false:=hcl
 have hr':qds E (jv E k) all o {fr with tmps:=ke fr.tmps (o.looksAt all) .nil} (zm H fp ((done.filter fun d=>!(b.getD i 0).testBit d.i).flatMap Done.names))=some (.ret v,K):=hr
 have h1':=h1 k hk
 simp only [zl] at h1'
 simp only [qbv,hw,Option.bind_some,cond_true,hfp]
 cases fp with
 | call=>exact absurd rfl hnc
 | _=>simp only [hcl',cond_false,hr',hb];exact h1'
theorem zem (hw:qbm o all fr=some false) (k:WpD E all b (i+1) l (⟨i,.none,H.next,H.next,(zl b i done).flatMap Done.names⟩::done) (fr.put o.dst k8) H Q):WpD E all b i (o::l) done fr H Q:=by
 obtain ⟨x,⟨k0,h1⟩,h2⟩:=k
 refine ⟨x,⟨k0,fun k hk=>?_⟩,h2⟩
 have hany:∀ (l:List Done) (dels:List Nat),(l.any fun d=>qbb d dels .none)=false:=by
  intro l dels
  rw [<-Bool.not_eq_true,List.any_eq_true]
  rintro ⟨d,_,hc⟩
  rw [qmt] at hc
  cases hc
 have hb:Nat.blt H.next H.next=false:=by
  rw [<-Bool.not_eq_true,Nat.blt_eq]
  omega
 have hnx:∀ dels,(zm H .none dels).next=H.next:=fun dels=>rfl
 simp only [qbv,hw,Option.bind_some,cond_false,hany,qds,qnk,qhu,hnx,hb]
 exact h1 k hk
def Calm (B:Nat) (done:List Done):Prop:=∀ d ∈ done,(d.fp=.none∨∃ l,d.fp=.reads l)/\B<=d.lo
theorem zax {B:Nat}:Calm B []:=fun d h=>by cases h
theorem q8e {B:Nat} {d:Done} (h:d.fp=.none∨∃ l,d.fp=.reads l) (hb:B<=d.lo) (hd:Calm B done):Calm B (d::done):=by
 intro x hx
 rcases List.mem_cons.1 hx with rfl | hx
 .exact ⟨h,hb⟩
 .exact hd x hx
theorem qs3 {B:Nat} (hc:Calm B done) {fp:FP} (hf:fp=.none∨∃ l,fp=.reads l) {dels:List Nat}:((zl b i done).any fun d=>qbb d dels fp)=false:=by
 rw [<-Bool.not_eq_true,List.any_eq_true]
 rintro ⟨d,hd,h⟩
 have hm:=(hc d (List.mem_filter.1 hd).1).1
 obtain ⟨di,dfp,dlo,dhi,dd⟩:=d
 simp only at hm
 rcases hm with hm | ⟨l,hm⟩<;>rcases hf with rfl | ⟨l',rfl⟩<;>subst hm<;>cases h
theorem q8f {B nm:Nat} (hc:Calm B done) (h:nm<B):nm ∉ (zl b i done).flatMap Done.names:=by
 intro hm
 obtain ⟨d,hd,hn⟩:=List.mem_flatMap.1 hm
 have h1:=(hc d (List.mem_filter.1 hd).1).2
 have h2:=(List.mem_range'_1.1 hn).1
 omega
theorem qis {l:List Nat} {dels:List Nat} {nm:Nat} (hl:nm ∈ l) (hn:nm<H.next) (hd:nm ∉ dels):(zm H (.reads l) dels).get nm=H.get nm:=by
 have hok:(Nat.blt nm H.next&&!dels.any fun m=>Nat.beq nm m)=true:=qnb hn hd
 simp only [zm,Heap.get,ja]
 rw [if_pos (List.mem_filter.2 ⟨hl,hok⟩)]
theorem qim {l dels:List Nat}:qat H (zm H (.reads l) dels) (.reads l) dels=H:=by
 simp only [qat,zm,Nat.sub_self,List.range'_zero,ke]
end
section
variable {o:Oper}
theorem qn5 {t:TypeId} {ti fi:TI} {x:Operand} {k nm g off lim:Nat} {f:Field} (ho:o.op=.fieldAddr t x k) (ht:E.types t=some ti) (hf:qe5 ti k=some f) (hfi:E.types f.type=some fi) (hz:Nat.beq fi.size 0=false) (hx:opd fr H x=some (.ptr nm g off lim)):z8 E o fr H=some (.val (.ptr nm g (off+f.offset) lim),H):=by
 simp only [z8,ho,ht,hf,hfi,hz,hx,Option.bind_some,cond_false]
end
theorem qbh {x:O}:(H.new x).get H.next=some x:=by
 obtain ⟨t,n,r,g⟩:=H
 simp only [Heap.new,Heap.get,Tree.kg,if_true]
theorem qb7 {x:O} {nm:Nat} (h:nm<H.next):(H.new x).get nm=H.get nm:=by
 obtain ⟨t,n,r,g⟩:=H
 have:¬ nm=n:=by simp only at h;omega
 simp only [Heap.new,Heap.get,Tree.kg,if_neg this]
theorem qt {x:O}:(H.new x).next=H.next+1:=by cases H;rfl
theorem qvk {x:O}:(H.new x).zd=H.zd:=by cases H;rfl
theorem q0z {x:O}:(H.new x).ro=H.ro:=by cases H;rfl
def Heap.put (H:Heap) (nm:Nat) (x:O):Heap:={H with qam:=H.qam.set nm x}
theorem qbi {nm:Nat} {x:O} (h:H.ro<=nm):H.upd nm x=some (H.put nm x):=by
 obtain ⟨t,n,r,g⟩:=H
 have hb:Nat.blt nm r=false:=by
  rw [<-Bool.not_eq_true,Nat.blt_eq]
  simp only at h
  omega
 simp only [Heap.upd,hb,cond_false,Heap.put]
theorem jx {nm:Nat} {x:O}:(H.put nm x).get nm=some x:=by simp only [Heap.put,Heap.get,Tree.kg,if_true]
theorem qax {nm m:Nat} {x:O} (h:m≠nm):(H.put nm x).get m=H.get m:=by simp only [Heap.put,Heap.get,Tree.kg,if_neg h]
structure Keeps (H H':Heap):Prop where
 next:H.next<=H'.next
 ro:H'.ro=H.ro
 zd:H'.zd=H.zd
 old:∀ nm,nm<H.next->H'.get nm=H.get nm
theorem Keeps.refl (H:Heap):Keeps H H:=⟨Nat.le_refl _,rfl,rfl,fun _ _=>rfl⟩
theorem Keeps.trans {H H' H'':Heap} (h:Keeps H H') (h':Keeps H' H''):Keeps H H'':=
 ⟨Nat.le_trans h.next h'.next,h'.ro.trans h.ro,h'.zd.trans h.zd,fun nm hn=>(h'.old nm (Nat.lt_of_lt_of_le hn h.next)).trans (h.old nm hn)⟩
theorem Keeps.new {H H':Heap} (h:Keeps H H') (x:O):Keeps H (H'.new x):=
 ⟨by rw [qt];have:=h.next;omega,by rw [q0z];exact h.ro,by rw [qvk];exact h.zd,fun nm hn=>by rw [qb7 (Nat.lt_of_lt_of_le hn h.next)];exact h.old nm hn⟩
theorem Keeps.put {H H':Heap} (h:Keeps H H') {nm:Nat} (hn:H.next<=nm) (x:O):Keeps H (H'.put nm x):=
 ⟨h.next,h.ro,h.zd,fun m hm=>by rw [qax (by omega)];exact h.old m hm⟩
section
variable {b:Array Nat} {i:Nat} {l:List Oper} {done:List Done} {o:Oper}
theorem q8s {x:O} {dels:List Nat}:qat H ((zm H .none dels).new x) .none dels=H.new x:=by
 obtain ⟨t,n,r,g⟩:=H
 have h1:(Tree.nil.set n x:Tree O).get n=some x:=by rw [Tree.kg,if_pos rfl]
 simp only [qat,zm,Heap.new,Nat.add_sub_cancel_left,List.range'_one,ke,h1]
theorem qj2 {l:List Nat} {dels:List Nat} {nm:Nat} (hl:nm ∈ l) (hn:nm<H.next) (hd:nm ∉ dels):(zm H (.writes l) dels).get nm=H.get nm:=by
 have hok:(Nat.blt nm H.next&&!dels.any fun m=>Nat.beq nm m)=true:=qnb hn hd
 simp only [zm,Heap.get,ja]
 rw [if_pos (List.mem_filter.2 ⟨hl,hok⟩)]
end
end
end Go.E2
