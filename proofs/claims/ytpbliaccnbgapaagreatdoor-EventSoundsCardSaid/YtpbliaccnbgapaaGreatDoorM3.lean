/- A VERIFIED EVALUATOR, texts E2y in one. -/
import Derived.Test.YtpbliaccnbgapaaGreatDoorM2
/- E2: RUNS OF E2's THAT NEED SO MUCH AND NO MORE: rules for code, one after the other, for proofs about whatever arguments. -/
namespace Go.E2
open Go
def zp3 (E:Env) (t:Tgt) (args:List V) (H:Heap) (y:CR×Heap):Prop:=∃ k0,∀ k,k0<=k->qaa E k t args H=some y
def qch (E:Env) (t:Tgt) (args:List V) (H:Heap) (Q:V->Heap->Prop):Prop:=∃ v H',zp3 E t args H (.ret v,H')/\Q v H'
def Wp (E:Env) (fn:FuncId) (round:Option Nat) (c:Code) (fr:Fr) (H:Heap) (Q:Ex->Fr->Heap->Prop):Prop:=
 ∃ x,(∃ k0,∀ k,k0<=k->zi E (qaa E k) fn round (k+1) c fr H=some x)/\Q x.1 x.2.1 x.2.2
def WpO (E:Env) (nd:Bool) (all:Array Oper) (l:List Oper) (fr:Fr) (H:Heap) (Q:Ex->Fr->Heap->Prop):Prop:=
 ∃ x,(∃ k0,∀ k,k0<=k->qdp E (qaa E k) nd all l fr H=some x)/\Q x.1 x.2.1 x.2.2
section
variable {E:Env} {fn:FuncId} {round:Option Nat} {nd:Bool} {all:Array Oper} {fr:Fr} {H:Heap} {Q:Ex->Fr->Heap->Prop}
theorem qch.mono {t:Tgt} {args:List V} {Q Q':V->Heap->Prop} (h:qch E t args H Q) (hq:∀ v H',Q v H'->Q' v H'):qch E t args H Q':=by
 obtain ⟨v,H',h1,h2⟩:=h
 exact ⟨v,H',h1,hq _ _ h2⟩
theorem Wp.mono {c:Code} {Q':Ex->Fr->Heap->Prop} (h:Wp E fn round c fr H Q) (hq:∀ ex fr' H',Q ex fr' H'->Q' ex fr' H'):Wp E fn round c fr H Q':=by
 obtain ⟨x,h1,h2⟩:=h
 exact ⟨x,h1,hq _ _ _ h2⟩
theorem WpO.mono {l:List Oper} {Q':Ex->Fr->Heap->Prop} (h:WpO E nd all l fr H Q) (hq:∀ ex fr' H',Q ex fr' H'->Q' ex fr' H'):WpO E nd all l fr H Q':=by
 obtain ⟨x,h1,h2⟩:=h
 exact ⟨x,h1,hq _ _ _ h2⟩
theorem zms (h:Q .normal fr H):Wp E fn round .skip fr H Q:=⟨(.normal,fr,H),⟨0,fun _ _=>rfl⟩,h⟩
theorem zi4 {l:Nat} (h:Q .normal fr H):Wp E fn round (.label l) fr H Q:=⟨(.normal,fr,H),⟨0,fun _ _=>rfl⟩,h⟩
theorem zi6 (h:Q .ret fr H):Wp E fn round .ret fr H Q:=⟨(.ret,fr,H),⟨0,fun _ _=>rfl⟩,h⟩
theorem zmq {id:Nat} (h:Q (.exit id) fr H):Wp E fn round (.exit id) fr H Q:=⟨(.exit id,fr,H),⟨0,fun _ _=>rfl⟩,h⟩
def q0k (next:Fr->Heap->Prop) (Q:Ex->Fr->Heap->Prop):Ex->Fr->Heap->Prop
 | .normal,fr,H=>next fr H
 | e,fr,H=>Q e fr H
theorem q25 {a b:Code} (h:Wp E fn round a fr H (q0k (fun fr' H'=>Wp E fn round b fr' H' Q) Q)):Wp E fn round (.seq a b) fr H Q:=by
 obtain ⟨⟨e,fr',H'⟩,⟨k0,h1⟩,h2⟩:=h
 cases e with
 | normal=>
  obtain ⟨x,⟨k1,h3⟩,h4⟩:=h2
  exact ⟨x,⟨max k0 k1,fun k hk=>by simp only [zi,h1 k (by omega),h3 k (by omega)]⟩,h4⟩
 | _=>exact ⟨_,⟨k0,fun k hk=>by simp only [zi,h1 k hk]⟩,h2⟩
theorem zmp {c:Operand} {a b:Code} {t:Bool} (hc:opd fr H c=some (.bool t)) (h:Wp E fn round (if t then a else b) fr H Q):Wp E fn round (.cond c a b) fr H Q:=by
 obtain ⟨x,⟨k0,h1⟩,h2⟩:=h
 refine ⟨x,⟨k0,fun k hk=>?_⟩,h2⟩
 have:=h1 k hk
 cases t<;>simp only [zi,hc]<;>exact this
def qns (id:Nat) (Q:Ex->Fr->Heap->Prop):Ex->Fr->Heap->Prop
 | .exit id',fr,H=>if id'=id then Q .normal fr H else Q (.exit id') fr H
 | e,fr,H=>Q e fr H
theorem zi3 {id:Nat} {c:Code} (h:Wp E fn round c fr H (qns id Q)):Wp E fn round (.block id c) fr H Q:=by
 obtain ⟨⟨e,fr',H'⟩,⟨k0,h1⟩,h2⟩:=h
 cases e with
 | exit id'=>
  simp only [qns] at h2
  by_cases hid:id'=id
  .rw [zT hid] at h2
   subst hid
   have hb:Nat.beq id' id'=true:=by rw [Nat.beq_eq]
   exact ⟨(.normal,fr',H'),⟨k0,fun k hk=>by simp only [zi,h1 k hk,hb,zO]⟩,h2⟩
  .rw [zF hid] at h2
   have hb:Nat.beq id' id=false:=by
    cases hq:Nat.beq id' id with
    | false=>rfl
    | true=>exact absurd (zE hq) hid
   exact ⟨(.exit id',fr',H'),⟨k0,fun k hk=>by simp only [zi,h1 k hk,hb,zQ]⟩,h2⟩
 | _=>exact ⟨_,⟨k0,fun k hk=>by simp only [zi,h1 k hk]⟩,h2⟩
theorem zi7 {c:Code} (h:Wp E fn round c fr H (fun e fr' H'=>(∀ l,e≠.goto l)/\Q e fr' H')):Wp E fn round (.scope c) fr H Q:=by
 obtain ⟨⟨e,fr',H'⟩,⟨k0,h1⟩,h2,h3⟩:=h
 refine ⟨(e,fr',H'),⟨k0,fun k hk=>?_⟩,h3⟩
 simp only [zi,h1 k hk]
 all_goals first
  | rfl
  | (cases e with
   | goto l=>exact absurd rfl (h2 l)
   | _=>rfl)
theorem qtr {c:Code} (Inv:Nat->Fr->Heap->Prop) {m:Nat} (h0:Inv m fr H)
  (h:∀ m fr H,Inv m fr H->Wp E fn round c fr H (q0k (fun fr' H'=>∃ m',m'<m/\Inv m' fr' H') Q)):Wp E fn round (.loop c) fr H Q:=by
 have key:∀ (m:Nat) (fr:Fr) (H:Heap) (s0:Ex),Inv m fr H->∃ x,(∃ k0 r,∀ k,k0<=k->∀ f,r<f->iter (fun (s:Ex×Fr×Heap)=>match zi E (qaa E k) fn round (k+1) c s.2.1 s.2.2 with
   | some (.normal,fr',H')=>some (true,.normal,fr',H')
   | some r=>some (false,r)
   | none=>none) f (s0,fr,H)=some x)/\Q x.1 x.2.1 x.2.2:=by
  intro m
  induction m using Nat.strongRecOn with
  | _ m ih=>
   intro fr H s0 hi
   obtain ⟨⟨e,fr',H'⟩,⟨k0,h1⟩,h2⟩:=h m fr H hi
   cases e with
   | normal=>
    obtain ⟨m',hm,hi'⟩:=h2
    obtain ⟨x,⟨k1,r,h3⟩,h4⟩:=ih m' hm fr' H' .normal hi'
    refine ⟨x,⟨max k0 k1,r+1,fun k hk f hf=>?_⟩,h4⟩
    obtain ⟨f,rfl⟩:∃ g,f=g+1:=⟨f-1,by omega⟩
    simp only [iter,h1 k (by omega)]
    exact h3 k (by omega) f (by omega)
   | _=>
    refine ⟨_,⟨k0,0,fun k hk f hf=>?_⟩,h2⟩
    obtain ⟨f,rfl⟩:∃ g,f=g+1:=⟨f-1,by omega⟩
    simp only [iter,h1 k hk]
 obtain ⟨x,⟨k0,r,h1⟩,h2⟩:=key m fr H .normal h0
 exact ⟨x,⟨max k0 r,fun k hk=>by simp only [zi];exact h1 k (by omega) (k+1) (by omega)⟩,h2⟩
theorem q0t {id:Nat} {ops:Array Oper} (h:WpO E round.isNone ops ops.toList fr H Q):Wp E fn round (.region id ops false) fr H Q:=by
 obtain ⟨x,⟨k0,h1⟩,h2⟩:=h
 exact ⟨x,⟨k0,fun k hk=>by simp only [zi,zQ];exact h1 k hk⟩,h2⟩
theorem za5 (h:Q .normal fr H):WpO E nd all [] fr H Q:=⟨(.normal,fr,H),⟨0,fun _ _=>rfl⟩,h⟩
def qhg (o:Oper):Bool:=match o.op with | .defer _=>true | _=>false
theorem qmy {call:Call} {o:Oper} {l:List Oper} (hd:qhg o=false):qdp E call nd all (o::l) fr H=match qd7 E call all o fr H with
   | some (.ret v,H')=>qdp E call nd all l (fr.put o.dst v) H'
   | some (.panic ch,H')=>some (.panic ch,fr,H')
   | none=>none:=by
 simp only [qdp]
 split
 .rename_i c ho
  simp [qhg,ho] at hd
 .rfl
theorem qht {o:Oper} {l:List Oper} {v:V} {H':Heap} (hd:qhg o=false) (hw:qby o all fr=some true) (h:zz E o fr H=some (.val v,H')) (k:WpO E nd all l (fr.put o.dst v) H' Q):WpO E nd all (o::l) fr H Q:=by
 obtain ⟨x,⟨k0,h1⟩,h2⟩:=k
 exact ⟨x,⟨k0,fun k hk=>by rw [qmy hd];simp only [qd7,hw,h];exact h1 k hk⟩,h2⟩
theorem qxk {o:Oper} {l:List Oper} {H':Heap} (hd:qhg o=false) (hw:qby o all fr=some true) (h:zz E o fr H=some (.skip,H')) (k:WpO E nd all l (fr.put o.dst jb) H' Q):WpO E nd all (o::l) fr H Q:=by
 obtain ⟨x,⟨k0,h1⟩,h2⟩:=k
 exact ⟨x,⟨k0,fun k hk=>by rw [qmy hd];simp only [qd7,hw,h];exact h1 k hk⟩,h2⟩
theorem zmt {o:Oper} {l:List Oper} (hd:qhg o=false) (hw:qby o all fr=some false) (k:WpO E nd all l (fr.put o.dst jb) H Q):WpO E nd all (o::l) fr H Q:=by
 obtain ⟨x,⟨k0,h1⟩,h2⟩:=k
 exact ⟨x,⟨k0,fun k hk=>by rw [qmy hd];simp only [qd7,hw];exact h1 k hk⟩,h2⟩
theorem zja {o:Oper} {l:List Oper} {t:Tgt} {args:List V} {H1:Heap} (hd:qhg o=false) (hw:qby o all fr=some true) (h:zz E o fr H=some (.call t args,H1))
  (k:qch E t args H1 fun v H'=>WpO E nd all l (fr.put o.dst v) H' Q):WpO E nd all (o::l) fr H Q:=by
 obtain ⟨v,H',⟨k1,h3⟩,⟨x,⟨k0,h1⟩,h2⟩⟩:=k
 refine ⟨x,⟨max k0 k1,fun k hk=>?_⟩,h2⟩
 rw [qmy hd]
 simp only [qd7,hw,h,h3 k (by omega)]
 exact h1 k (by omega)
theorem qum {f:Nat} {args:List V} {s:List V->Heap->Option (CR×Heap)} {v:V} {H':Heap} {Q:V->Heap->Prop} (hs:E.spec f=some s) (h:s args H=some (.ret v,H')) (hq:Q v H'):qch E (.func f) args H Q:=
 ⟨v,H',⟨1,fun k hk=>by
  obtain ⟨k,rfl⟩:∃ g,k=g+1:=⟨k-1,by omega⟩
  simp only [qaa,hs,h]⟩,hq⟩
def qcd:List Dfr->Heap->Option Heap
 | [],H=>some H
 | .mark nm::ds,H=>match H.get nm with
  | some .dfr=>(H.upd nm .gone).bind fun H'=>qcd ds H'
  | _=>none
 | .call _::_,_=>none
theorem qsi {call:Call} {fuel:Nat} {md:Md}:∀ {ds:List Dfr} {H H':Heap},qcd ds H=some H'->leave E call fuel ds md H=some (md,H')
 | [],H,H',h=>by simp only [qcd,zS] at h;simp [leave,h]
 | .mark nm::ds,H,H',h=>by
  simp only [qcd] at h
  simp only [leave]
  split at h
  .rename_i ho
   rw [ho]
   simp only [zI] at h ⊢
   obtain ⟨H1,h1,h2⟩:=h
   exact ⟨H1,h1,qsi h2⟩
  .cases h
 | .call d::ds,H,H',h=>by simp [qcd] at h
theorem qul {f:Nat} {fi:FI} {c:Code} {args:List V} {Q:V->Heap->Prop} (hs:E.spec f=none) (hf:E.funcs f=some fi) (hb:fi.body=some c)
  (h:Wp E f none c {tmps:=qdt args,n:=max args.length fi.ntmps,defers:=[]} H fun e fr' H'=>(e=.normal∨e=.ret)/\∃ H'',qcd fr'.defers H'=some H''/\∃ vs,kx E fr' H'' fi.results=some vs/\Q (oneOf vs) H''):qch E (.func f) args H Q:=by
 obtain ⟨⟨e,fr',H'⟩,⟨k0,h1⟩,h2,H'',h3,vs,h4,h5⟩:=h
 refine ⟨oneOf vs,H'',⟨k0+1,fun k hk=>?_⟩,h5⟩
 obtain ⟨k,rfl⟩:∃ g,k=g+1:=⟨k-1,by omega⟩
 have hwo:q26 E (qaa E k) (k+1) (e,fr',H')=some (.returning,fr',H''):=by
  have hl:=qsi (E:=E) (call:=qaa E k) (fuel:=k+1) (md:=.returning) h3
  rcases h2 with rfl | rfl<;>simp [q26,hl]
 simp only [qaa,hs,hf,hb,zB,h1 k (by omega),hwo,qlt,h4,zH]
theorem qyw {f:Nat} {fi:FI} {args:List V} {v:V} {Q:V->Heap->Prop} (hs:E.spec f=none) (hf:E.funcs f=some fi) (hb:fi.body=none) (h:zcp fi.ext args=some v) (hq:Q v H):qch E (.func f) args H Q:=
 ⟨v,H,⟨1,fun k hk=>by
  obtain ⟨k,rfl⟩:∃ g,k=g+1:=⟨k-1,by omega⟩
  simp only [qaa,hs,hf,hb,zB,h,zH]⟩,hq⟩
structure Upd (fr:Fr) (d:Nat) (v:V) (fr':Fr):Prop where
 get:fr'.tmp d=some v
 other:∀ j,Nat.beq j d=false->fr'.tmp j=fr.tmp j
 n:fr'.n=fr.n
 ds:fr'.defers=fr.defers
theorem qp5 {d:Nat} {v:V} (h:d<fr.n):Upd fr d v (fr.put (some d) v):=by
 obtain ⟨t,n,ds⟩:=fr
 have hb:Nat.blt d n=true:=by rw [Nat.blt_eq];exact h
 refine ⟨?_,fun j hj=>?_,?_,?_⟩
 .simp only [Fr.put,hb,zO,Fr.tmp,Tree.km,if_true]
 .have hne:¬ j=d:=by
   intro he
   rw [he] at hj
   have:Nat.beq d d=true:=by rw [Nat.beq_eq]
   rw [this] at hj
   cases hj
  simp only [Fr.put,hb,zO,Fr.tmp,Tree.km,zF hne]
 .simp only [Fr.put,hb,zO]
 .simp only [Fr.put,hb,zO]
theorem qhx {o:Oper} (hg:o.guard=none):qby o all fr=some true:=by simp only [qby,hg]
theorem za2 {o:Oper} {j d:Nat} {want b:Bool} (hg:o.guard=some (j,want)) (hj:(all[j]?).bind (·.dst)=some d) (hv:fr.tmp d=some (.bool b)):qby o all fr=some (b == want):=by
 simp only [qby,hg,hj,hv]
theorem q88 {o:Oper} {j d:Nat} {want:Bool} (hg:o.guard=some (j,want)) (hj:(all[j]?).bind (·.dst)=some d) (hv:fr.tmp d=some jb):qby o all fr=some false:=by
 simp only [qby,hg,hj,hv,jb]
theorem zp2 {o:Oper} {l:List Oper} {v:V} {H':Heap} {d:Nat} (hd:qhg o=false) (hw:qby o all fr=some true) (hdst:o.dst=some d) (hn:d<fr.n) (h:zz E o fr H=some (.val v,H')) (k:∀ fr',Upd fr d v fr'->WpO E nd all l fr' H' Q):WpO E nd all (o::l) fr H Q:=
 qht hd hw h (by rw [hdst];exact k _ (qp5 hn))
theorem qfn {t:Nat} {v:V} (h:fr.tmp t=some v):opd fr H (.tmp t)=some v:=h
theorem zdp {c:Value} {v:V} (h:qk5 1000 c=some v):opd fr H (.const c)=some v:=h
theorem zhy:qbj fr H []=some []:=rfl
theorem qrj {x:Operand} {l:List Operand} {v:V} {vs:List V} (h:opd fr H x=some v) (h':qbj fr H l=some vs):qbj fr H (x::l)=some (v::vs):=by
 simp only [qbj,h,h',zB,zH]
section
variable {o:Oper}
theorem q92 {x:Operand} {v:V} (ho:o.op=.move x) (hx:opd fr H x=some v):zz E o fr H=some (.val v,H):=by simp only [zz,ho,hx,zH]
theorem qy8 {x:Operand} {v:V} (ho:o.op=.assign x) (hx:opd fr H x=some v):zz E o fr H=some (.val v,H):=by simp only [zz,ho,hx,zH]
theorem zdo {x:Operand} {v:V} (h:opd fr H x=some v):qje fr H (some x)=some (some v):=by simp only [qje,h,zH]
theorem q3w {lo hi d:Nat} {k:IntKind} {i:Int} (h:(lo:Int)<=i/\i<=hi):jw lo hi (some (.int k i)) d=some i.toNat:=by simp only [jw,h,and_self,if_true]
end
theorem zmb:kx E fr H []=some []:=rfl
theorem zmc {t:Nat} {v:V} {rs:List ResultVar} {vs:List V} (h:fr.tmp t=some v) (h':kx E fr H rs=some vs):kx E fr H (.tmp t::rs)=some (v::vs):=by
 simp only [kx,h,h',zB,zH]
theorem ends {rs:List ResultVar} {vs:List V} {R:V->Heap->Prop} (hd:fr.defers=[]) (hr:kx E fr H rs=some vs) (h:R (oneOf vs) H):∃ H'',qcd fr.defers H=some H''/\∃ vs,kx E fr H'' rs=some vs/\R (oneOf vs) H'':=
 ⟨H,by rw [hd];rfl,vs,hr,h⟩
theorem zqb (hd:fr.defers=[]):qcd fr.defers H=some H:=by rw [hd];rfl
theorem q6m {next:Fr->Heap->Prop} (h:next fr H):q0k next Q .normal fr H:=h
theorem q3v {id id':Nat} (hn:¬ id'=id) (h:Q (.exit id') fr H):qns id Q (.exit id') fr H:=by
 simp only [qns,zF hn]
 exact h
theorem q7h {id:Nat} (h:Q .normal fr H):qns id Q (.exit id) fr H:=by
 simp only [qns,if_true]
 exact h
theorem qbs {t:Nat} {l:List Nat} (h:t ∈ l):({fr with tmps:=kk fr.tmps l .nil}:Fr).tmp t=fr.tmp t:=by
 simp only [Fr.tmp,jf,h,if_true]
theorem qoq {o:Oper}:qby o all {fr with tmps:=kk fr.tmps (o.looksAt all) .nil}=qby o all fr:=by
 unfold qby
 split
 .rfl
 .rename_i j want hg
  split
  .rfl
  .rename_i d hd
   rw [qbs]
   simp [Oper.looksAt,hg,hd]
def zn (b:Array Nat) (i:Nat) (done:List Done):List Done:=done.filter fun d=>!(b.getD i 0).testBit d.i
theorem qnt {d:Done} {l:List Nat}:qbq d l .none=false:=by
 obtain ⟨i,fp,lo,hi,ds⟩:=d
 cases fp<;>rfl
theorem qid {dels:List Nat}:qbc H (zr H .none dels) .none dels=H:=by
 simp only [qbc,zr,Nat.sub_self,List.range'_zero,kk]
theorem q3y {P:Program} {sp:Nat->Option (List V->Heap->Option (CR×Heap))} (hm:P.follows .mixedOrders=true) (hok:qkp P=true) (hsp:∀ f s,sp f=some s->zm P f s) {f:FuncId} {g:Func} {c:Code} (hf:P.funcs[f]? = some g) (hname:(g.name == "runtime.NumGoroutine")=false) (hb:g.body=some c)
  {args:List V} {rargs:Array Value} {G:qi} {W:World} {R:V->Heap->Prop} (hs:Sim H G W) (hr:qm G W args rargs.toList) (h:qch (qo P sp) (.func f) args H R) :
  Calls P f rargs W fun e w'=>∃ v H' x G',R v H'/\e=.returned x/\Rel G' w' v x/\Step H G W H' G' w':=by
 obtain ⟨v,H',⟨k0,h1⟩,h2⟩:=h
 have hc:qdi P (qaa (qo P sp) k0):=qax hm (zm0 hok) (q9m hok) hsp k0
 refine (hc.calls hf hname hb (h1 k0 (zN _)) hs hr).mono fun e w' ⟨G',st,se⟩=>?_
 obtain ⟨x,rfl,hx⟩:=se
 exact ⟨v,H',x,G',h2,rfl,hx,st⟩
theorem qy6 {args:List V} {n:Nat} {ds:List Dfr} {i:Nat} {v:V} (h:args[i]? = some v):({tmps:=qdt args,n:=n,defers:=ds}:Fr).tmp i=some v:=by
 simp only [Fr.tmp,qdt,Tree.qn3,h]
def WpD (E:Env) (all:Array Oper) (b:Array Nat) (i:Nat) (l:List Oper) (done:List Done) (fr:Fr) (H:Heap) (Q:Ex->Fr->Heap->Prop):Prop:=
 ∃ x:Fr×Heap,(∃ k0,∀ k,k0<=k->qb7 E (qaa E k) all b i l done fr H=some x)/\Q .normal x.1 x.2
theorem q6t {id:Nat} {ops:Array Oper} (h:WpD E ops (Region.before ops) 0 ops.toList [] fr H Q):Wp E fn round (.region id ops true) fr H Q:=by
 obtain ⟨x,⟨k0,h1⟩,h2⟩:=h
 exact ⟨(.normal,x.1,x.2),⟨k0,fun k hk=>by simp only [zi,zO,h1 k hk,zH]⟩,h2⟩
section
variable {b:Array Nat} {i:Nat} {l:List Oper} {done:List Done} {o:Oper}
theorem za3 (h:Q .normal fr H):WpD E all b i [] done fr H Q:=⟨(fr,H),⟨0,fun _ _=>rfl⟩,h⟩
theorem qbz {fp:FP} {out:Out} {v:V} {K:Heap} (hw:qby o all fr=some true) (hfp:qf5 E o fr=fp) (hnc:fp≠.call) (hcl:((zn b i done).any fun d=>qbq d ((zn b i done).flatMap Done.names) fp)=false)
  (hev:zz E o {fr with tmps:=kk fr.tmps (o.looksAt all) .nil} (zr H fp ((zn b i done).flatMap Done.names))=some (out,K)) (hout:out=.val v∨(out=.skip/\v=jb)) (hlt:H.next<=K.next)
  (k:WpD E all b (i+1) l (⟨i,fp,H.next,K.next,(zn b i done).flatMap Done.names⟩::done) (fr.put o.dst v) (qbc H K fp ((zn b i done).flatMap Done.names)) Q):WpD E all b i (o::l) done fr H Q:=by
 obtain ⟨x,⟨k0,h1⟩,h2⟩:=k
 refine ⟨x,⟨k0,fun k hk=>?_⟩,h2⟩
 have hb:Nat.blt K.next H.next=false:=by
  rw [<-Bool.not_eq_true,Nat.blt_eq]
  omega
 have hr:qd7 E (qaa E k) all o {fr with tmps:=kk fr.tmps (o.looksAt all) .nil} (zr H fp ((zn b i done).flatMap Done.names))=some (.ret v,K):=by
  rcases hout with rfl | ⟨rfl,rfl⟩<;>simp only [qd7,qoq,hw,hev]
 have hcl':((done.filter fun d=>!(b.getD i 0).testBit d.i).any fun d=>qbq d ((done.filter fun d=>!(b.getD i 0).testBit d.i).flatMap Done.names) fp)=false:=hcl
 have hr':qd7 E (qaa E k) all o {fr with tmps:=kk fr.tmps (o.looksAt all) .nil} (zr H fp ((done.filter fun d=>!(b.getD i 0).testBit d.i).flatMap Done.names))=some (.ret v,K):=hr
 have h1':=h1 k hk
 simp only [zn] at h1'
 simp only [qb7,hw,zB,zO,hfp]
 cases fp with
 | call=>exact absurd rfl hnc
 | _=>simp only [hcl',zQ,hr',hb];exact h1'
theorem zi9 (hw:qby o all fr=some false) (k:WpD E all b (i+1) l (⟨i,.none,H.next,H.next,(zn b i done).flatMap Done.names⟩::done) (fr.put o.dst jb) H Q):WpD E all b i (o::l) done fr H Q:=by
 obtain ⟨x,⟨k0,h1⟩,h2⟩:=k
 refine ⟨x,⟨k0,fun k hk=>?_⟩,h2⟩
 have hany:∀ (l:List Done) (dels:List Nat),(l.any fun d=>qbq d dels .none)=false:=by
  intro l dels
  rw [<-Bool.not_eq_true,List.any_eq_true]
  rintro ⟨d,_,hc⟩
  rw [qnt] at hc
  cases hc
 have hb:Nat.blt H.next H.next=false:=by
  rw [<-Bool.not_eq_true,Nat.blt_eq]
  omega
 have hnx:∀ dels,(zr H .none dels).next=H.next:=fun dels=>rfl
 simp only [qb7,hw,zB,zQ,hany,qd7,qoq,qid,hnx,hb]
 exact h1 k hk
def Calm (B:Nat) (done:List Done):Prop:=∀ d ∈ done,(d.fp=.none∨∃ l,d.fp=.reads l)/\B<=d.lo
theorem zfn {B:Nat}:Calm B []:=fun d h=>by cases h
theorem zca {B:Nat} {d:Done} (h:d.fp=.none∨∃ l,d.fp=.reads l) (hb:B<=d.lo) (hd:Calm B done):Calm B (d::done):=by
 intro x hx
 rcases zD.1 hx with rfl | hx
 .exact ⟨h,hb⟩
 .exact hd x hx
theorem qup {B:Nat} (hc:Calm B done) {fp:FP} (hf:fp=.none∨∃ l,fp=.reads l) {dels:List Nat}:((zn b i done).any fun d=>qbq d dels fp)=false:=by
 rw [<-Bool.not_eq_true,List.any_eq_true]
 rintro ⟨d,hd,h⟩
 have hm:=(hc d (List.mem_filter.1 hd).1).1
 obtain ⟨di,dfp,dlo,dhi,dd⟩:=d
 simp only at hm
 rcases hm with hm | ⟨l,hm⟩<;>rcases hf with rfl | ⟨l',rfl⟩<;>subst hm<;>cases h
theorem zcb {B nm:Nat} (hc:Calm B done) (h:nm<B):nm ∉ (zn b i done).flatMap Done.names:=by
 intro hm
 obtain ⟨d,hd,hn⟩:=List.mem_flatMap.1 hm
 have h1:=(hc d (List.mem_filter.1 hd).1).2
 have h2:=(List.mem_range'_1.1 hn).1
 omega
theorem qjb {l:List Nat} {dels:List Nat} {nm:Nat} (hl:nm ∈ l) (hn:nm<H.next) (hd:nm ∉ dels):(zr H (.reads l) dels).get nm=H.get nm:=by
 have hok:(Nat.blt nm H.next&&!dels.any fun m=>Nat.beq nm m)=true:=qoa hn hd
 simp only [zr,Heap.get,jf]
 rw [zT (List.mem_filter.2 ⟨hl,hok⟩)]
theorem qi3 {l dels:List Nat}:qbc H (zr H (.reads l) dels) (.reads l) dels=H:=by
 simp only [qbc,zr,Nat.sub_self,List.range'_zero,kk]
end
section
variable {o:Oper}
theorem qpe {t:TypeId} {ti fi:TI} {x:Operand} {k nm g off lim:Nat} {f:Field} (ho:o.op=.fieldAddr t x k) (ht:E.types t=some ti) (hf:qfg ti k=some f) (hfi:E.types f.type=some fi) (hz:Nat.beq fi.size 0=false) (hx:opd fr H x=some (.ptr nm g off lim)):zz E o fr H=some (.val (.ptr nm g (off+f.offset) lim),H):=by
 simp only [zz,ho,ht,hf,hfi,hz,hx,zB,zQ]
end
theorem qbw {x:O}:(H.new x).get H.next=some x:=by
 obtain ⟨t,n,r,g⟩:=H
 simp only [Heap.new,Heap.get,Tree.km,if_true]
theorem qck {x:O} {nm:Nat} (h:nm<H.next):(H.new x).get nm=H.get nm:=by
 obtain ⟨t,n,r,g⟩:=H
 have:¬ nm=n:=by simp only at h;omega
 simp only [Heap.new,Heap.get,Tree.km,zF this]
theorem qz {x:O}:(H.new x).next=H.next+1:=by cases H;rfl
theorem qxx {x:O}:(H.new x).qy=H.qy:=by cases H;rfl
theorem q45 {x:O}:(H.new x).ro=H.ro:=by cases H;rfl
def Heap.put (H:Heap) (nm:Nat) (x:O):Heap:={H with qa6:=H.qa6.set nm x}
theorem qbn {nm:Nat} {x:O} (h:H.ro<=nm):H.upd nm x=some (H.put nm x):=by
 obtain ⟨t,n,r,g⟩:=H
 have hb:Nat.blt nm r=false:=by
  rw [<-Bool.not_eq_true,Nat.blt_eq]
  simp only at h
  omega
 simp only [Heap.upd,hb,zQ,Heap.put]
theorem qac {nm:Nat} {x:O}:(H.put nm x).get nm=some x:=by simp only [Heap.put,Heap.get,Tree.km,if_true]
theorem qbf {nm m:Nat} {x:O} (h:m≠nm):(H.put nm x).get m=H.get m:=by simp only [Heap.put,Heap.get,Tree.km,zF h]
structure Keeps (H H':Heap):Prop where
 next:H.next<=H'.next
 ro:H'.ro=H.ro
 qy:H'.qy=H.qy
 old:∀ nm,nm<H.next->H'.get nm=H.get nm
theorem Keeps.refl (H:Heap):Keeps H H:=⟨zN _,rfl,rfl,fun _ _=>rfl⟩
theorem Keeps.trans {H H' H'':Heap} (h:Keeps H H') (h':Keeps H' H''):Keeps H H'':=
 ⟨zR h.next h'.next,h'.ro.trans h.ro,h'.qy.trans h.qy,fun nm hn=>(h'.old nm (zL hn h.next)).trans (h.old nm hn)⟩
theorem Keeps.new {H H':Heap} (h:Keeps H H') (x:O):Keeps H (H'.new x):=
 ⟨by rw [qz];have:=h.next;omega,by rw [q45];exact h.ro,by rw [qxx];exact h.qy,fun nm hn=>by rw [qck (zL hn h.next)];exact h.old nm hn⟩
theorem Keeps.put {H H':Heap} (h:Keeps H H') {nm:Nat} (hn:H.next<=nm) (x:O):Keeps H (H'.put nm x):=
 ⟨h.next,h.ro,h.qy,fun m hm=>by rw [qbf (by omega)];exact h.old m hm⟩
section
variable {b:Array Nat} {i:Nat} {l:List Oper} {done:List Done} {o:Oper}
theorem zc4 {x:O} {dels:List Nat}:qbc H ((zr H .none dels).new x) .none dels=H.new x:=by
 obtain ⟨t,n,r,g⟩:=H
 have h1:(Tree.nil.set n x:Tree O).get n=some x:=by rw [Tree.km,zT rfl]
 simp only [qbc,zr,Heap.new,Nat.add_sub_cancel_left,List.range'_one,kk,h1]
theorem qks {l:List Nat} {dels:List Nat} {nm:Nat} (hl:nm ∈ l) (hn:nm<H.next) (hd:nm ∉ dels):(zr H (.writes l) dels).get nm=H.get nm:=by
 have hok:(Nat.blt nm H.next&&!dels.any fun m=>Nat.beq nm m)=true:=qoa hn hd
 simp only [zr,Heap.get,jf]
 rw [zT (List.mem_filter.2 ⟨hl,hok⟩)]
end
end
end Go.E2
