import Derived.Test.YtbopmiclcimjgaaGreatDoorM2
namespace Go.E2
open Go
def zr1 (E:Env) (t:Tgt) (args:List V) (H:Heap) (y:CR×Heap):Prop:=∃ k0,∀ k,k0<=k->qam E k t args H=some y
def qc2 (E:Env) (t:Tgt) (args:List V) (H:Heap) (Q:V->Heap->Prop):Prop:=∃ v H',zr1 E t args H (.ret v,H')/\Q v H'
def Wp (E:Env) (fn:FuncId) (round:Option Nat) (c:Code) (fr:Fr) (H:Heap) (Q:Ex->Fr->Heap->Prop):Prop:=
 ∃ x,(∃ k0,∀ k,k0<=k->zh E (qam E k) fn round (k+1) c fr H=some x)/\Q x.1 x.2.1 x.2.2
def WpO (E:Env) (nd:Bool) (all:Array Oper) (l:List Oper) (fr:Fr) (H:Heap) (Q:Ex->Fr->Heap->Prop):Prop:=
 ∃ x,(∃ k0,∀ k,k0<=k->qd8 E (qam E k) nd all l fr H=some x)/\Q x.1 x.2.1 x.2.2
section
variable {E:Env} {fn:FuncId} {round:Option Nat} {nd:Bool} {all:Array Oper} {fr:Fr} {H:Heap} {Q:Ex->Fr->Heap->Prop}
theorem qc2.mono {t:Tgt} {args:List V} {Q Q':V->Heap->Prop} (h:qc2 E t args H Q) (hq:∀ v H',Q v H'->Q' v H'):qc2 E t args H Q':=by
 obtain ⟨v,H',h1,h2⟩:=h
 exact ⟨v,H',h1,hq _ _ h2⟩
theorem Wp.mono {c:Code} {Q':Ex->Fr->Heap->Prop} (h:Wp E fn round c fr H Q) (hq:∀ ex fr' H',Q ex fr' H'->Q' ex fr' H'):Wp E fn round c fr H Q':=by
 obtain ⟨x,h1,h2⟩:=h
 exact ⟨x,h1,hq _ _ _ h2⟩
theorem WpO.mono {l:List Oper} {Q':Ex->Fr->Heap->Prop} (h:WpO E nd all l fr H Q) (hq:∀ ex fr' H',Q ex fr' H'->Q' ex fr' H'):WpO E nd all l fr H Q':=by
 obtain ⟨x,h1,h2⟩:=h
 exact ⟨x,h1,hq _ _ _ h2⟩
theorem zo0 (h:Q .normal fr H):Wp E fn round .skip fr H Q:=⟨(.normal,fr,H),⟨0,fun _ _=>rfl⟩,h⟩
theorem zlg {l:Nat} (h:Q .normal fr H):Wp E fn round (.label l) fr H Q:=⟨(.normal,fr,H),⟨0,fun _ _=>rfl⟩,h⟩
theorem zli (h:Q .ret fr H):Wp E fn round .ret fr H Q:=⟨(.ret,fr,H),⟨0,fun _ _=>rfl⟩,h⟩
theorem zoy {id:Nat} (h:Q (.exit id) fr H):Wp E fn round (.exit id) fr H Q:=⟨(.exit id,fr,H),⟨0,fun _ _=>rfl⟩,h⟩
def q1h (next:Fr->Heap->Prop) (Q:Ex->Fr->Heap->Prop):Ex->Fr->Heap->Prop
 | .normal,fr,H=>next fr H
 | e,fr,H=>Q e fr H
theorem q3n {a b:Code} (h:Wp E fn round a fr H (q1h (fun fr' H'=>Wp E fn round b fr' H' Q) Q)):Wp E fn round (.seq a b) fr H Q:=by
 obtain ⟨⟨e,fr',H'⟩,⟨k0,h1⟩,h2⟩:=h
 cases e with
 | normal=>
  obtain ⟨x,⟨k1,h3⟩,h4⟩:=h2
  exact ⟨x,⟨max k0 k1,fun k hk=>by simp only [zh,h1 k (by omega),h3 k (by omega)]⟩,h4⟩
 | _=>exact ⟨_,⟨k0,fun k hk=>by simp only [zh,h1 k hk]⟩,h2⟩
theorem zox {c:Operand} {a b:Code} {t:Bool} (hc:opd fr H c=some (.bool t)) (h:Wp E fn round (if t then a else b) fr H Q):Wp E fn round (.cond c a b) fr H Q:=by
 obtain ⟨x,⟨k0,h1⟩,h2⟩:=h
 refine ⟨x,⟨k0,fun k hk=>?_⟩,h2⟩
 have:=h1 k hk
 cases t<;>simp only [zh,hc]<;>exact this
def qor (id:Nat) (Q:Ex->Fr->Heap->Prop):Ex->Fr->Heap->Prop
 | .exit id',fr,H=>if id'=id then Q .normal fr H else Q (.exit id') fr H
 | e,fr,H=>Q e fr H
theorem zlf {id:Nat} {c:Code} (h:Wp E fn round c fr H (qor id Q)):Wp E fn round (.block id c) fr H Q:=by
 obtain ⟨⟨e,fr',H'⟩,⟨k0,h1⟩,h2⟩:=h
 cases e with
 | exit id'=>
  simp only [qor] at h2
  by_cases hid:id'=id
  .rw [if_pos hid] at h2
   subst hid
   have hb:Nat.beq id' id'=true:=by rw [Nat.beq_eq]
   exact ⟨(.normal,fr',H'),⟨k0,fun k hk=>by simp only [zh,h1 k hk,hb,cond_true]⟩,h2⟩
  .rw [if_neg hid] at h2
   have hb:Nat.beq id' id=false:=by
    cases hq:Nat.beq id' id with
    | false=>rfl
    | true=>exact absurd (zE hq) hid
   exact ⟨(.exit id',fr',H'),⟨k0,fun k hk=>by simp only [zh,h1 k hk,hb,cond_false]⟩,h2⟩
 | _=>exact ⟨_,⟨k0,fun k hk=>by simp only [zh,h1 k hk]⟩,h2⟩
theorem zlj {c:Code} (h:Wp E fn round c fr H (fun e fr' H'=>(∀ l,e≠.goto l)/\Q e fr' H')):Wp E fn round (.scope c) fr H Q:=by
 obtain ⟨⟨e,fr',H'⟩,⟨k0,h1⟩,h2,h3⟩:=h
 refine ⟨(e,fr',H'),⟨k0,fun k hk=>?_⟩,h3⟩
 simp only [zh,h1 k hk]
 all_goals first
  | rfl
  | (cases e with
   | goto l=>exact absurd rfl (h2 l)
   | _=>rfl)
theorem qve {c:Code} (Inv:Nat->Fr->Heap->Prop) {m:Nat} (h0:Inv m fr H)
  (h:∀ m fr H,Inv m fr H->Wp E fn round c fr H (q1h (fun fr' H'=>∃ m',m'<m/\Inv m' fr' H') Q)):Wp E fn round (.loop c) fr H Q:=by
 have key:∀ (m:Nat) (fr:Fr) (H:Heap) (s0:Ex),Inv m fr H->∃ x,(∃ k0 r,∀ k,k0<=k->∀ f,r<f->iter (fun (s:Ex×Fr×Heap)=>match zh E (qam E k) fn round (k+1) c s.2.1 s.2.2 with
   | some (.normal,fr',H')=>some (true,.normal,fr',H')
   | some r=>some (false,r)
   | none=>none) f (s0,fr,H)=some x)/\Q x.1 x.2.1 x.2.2:=by
  intro m
  induction m using Nat.strongRecOn with
  | _ m ih=>
   intro fr H s0 hi
   obtain ⟨⟨e,fr',H'⟩,⟨k0,h1⟩,h2⟩:=h m fr H hi
   cases e with
   | normal=>
    obtain ⟨m',hm,hi'⟩:=h2
    obtain ⟨x,⟨k1,r,h3⟩,h4⟩:=ih m' hm fr' H' .normal hi'
    refine ⟨x,⟨max k0 k1,r+1,fun k hk f hf=>?_⟩,h4⟩
    obtain ⟨f,rfl⟩:∃ g,f=g+1:=⟨f-1,by omega⟩
    simp only [iter,h1 k (by omega)]
    exact h3 k (by omega) f (by omega)
   | _=>
    refine ⟨_,⟨k0,0,fun k hk f hf=>?_⟩,h2⟩
    obtain ⟨f,rfl⟩:∃ g,f=g+1:=⟨f-1,by omega⟩
    simp only [iter,h1 k hk]
 obtain ⟨x,⟨k0,r,h1⟩,h2⟩:=key m fr H .normal h0
 exact ⟨x,⟨max k0 r,fun k hk=>by simp only [zh];exact h1 k (by omega) (k+1) (by omega)⟩,h2⟩
theorem q1m {id:Nat} {ops:Array Oper} (h:WpO E round.isNone ops ops.toList fr H Q):Wp E fn round (.region id ops false) fr H Q:=by
 obtain ⟨x,⟨k0,h1⟩,h2⟩:=h
 exact ⟨x,⟨k0,fun k hk=>by simp only [zh,cond_false];exact h1 k hk⟩,h2⟩
theorem zdc (h:Q .normal fr H):WpO E nd all [] fr H Q:=⟨(.normal,fr,H),⟨0,fun _ _=>rfl⟩,h⟩
def qia (o:Oper):Bool:=match o.op with | .defer _=>true | _=>false
theorem qnr {call:Call} {o:Oper} {l:List Oper} (hd:qia o=false):qd8 E call nd all (o::l) fr H=match qeq E call all o fr H with
   | some (.ret v,H')=>qd8 E call nd all l (fr.put o.dst v) H'
   | some (.panic ch,H')=>some (.panic ch,fr,H')
   | none=>none:=by
 simp only [qd8]
 split
 .rename_i c ho
  simp [qia,ho] at hd
 .rfl
theorem qkd {o:Oper} {l:List Oper} {v:V} {H':Heap} (hd:qia o=false) (hw:qcj o all fr=some true) (h:kh E o fr H=some (.val v,H')) (k:WpO E nd all l (fr.put o.dst v) H' Q):WpO E nd all (o::l) fr H Q:=by
 obtain ⟨x,⟨k0,h1⟩,h2⟩:=k
 exact ⟨x,⟨k0,fun k hk=>by rw [qnr hd];simp only [qeq,hw,h];exact h1 k hk⟩,h2⟩
theorem qyk {o:Oper} {l:List Oper} {H':Heap} (hd:qia o=false) (hw:qcj o all fr=some true) (h:kh E o fr H=some (.skip,H')) (k:WpO E nd all l (fr.put o.dst jr) H' Q):WpO E nd all (o::l) fr H Q:=by
 obtain ⟨x,⟨k0,h1⟩,h2⟩:=k
 exact ⟨x,⟨k0,fun k hk=>by rw [qnr hd];simp only [qeq,hw,h];exact h1 k hk⟩,h2⟩
theorem zo1 {o:Oper} {l:List Oper} (hd:qia o=false) (hw:qcj o all fr=some false) (k:WpO E nd all l (fr.put o.dst jr) H Q):WpO E nd all (o::l) fr H Q:=by
 obtain ⟨x,⟨k0,h1⟩,h2⟩:=k
 exact ⟨x,⟨k0,fun k hk=>by rw [qnr hd];simp only [qeq,hw];exact h1 k hk⟩,h2⟩
theorem zln {o:Oper} {l:List Oper} {t:Tgt} {args:List V} {H1:Heap} (hd:qia o=false) (hw:qcj o all fr=some true) (h:kh E o fr H=some (.call t args,H1))
  (k:qc2 E t args H1 fun v H'=>WpO E nd all l (fr.put o.dst v) H' Q):WpO E nd all (o::l) fr H Q:=by
 obtain ⟨v,H',⟨k1,h3⟩,⟨x,⟨k0,h1⟩,h2⟩⟩:=k
 refine ⟨x,⟨max k0 k1,fun k hk=>?_⟩,h2⟩
 rw [qnr hd]
 simp only [qeq,hw,h,h3 k (by omega)]
 exact h1 k (by omega)
theorem qv7 {f:Nat} {args:List V} {s:List V->Heap->Option (CR×Heap)} {v:V} {H':Heap} {Q:V->Heap->Prop} (hs:E.spec f=some s) (h:s args H=some (.ret v,H')) (hq:Q v H'):qc2 E (.func f) args H Q:=
 ⟨v,H',⟨1,fun k hk=>by
  obtain ⟨k,rfl⟩:∃ g,k=g+1:=⟨k-1,by omega⟩
  simp only [qam,hs,h]⟩,hq⟩
def qcv:List Dfr->Heap->Option Heap
 | [],H=>some H
 | .mark nm::ds,H=>match H.get nm with
  | some .dfr=>(H.upd nm .gone).bind fun H'=>qcv ds H'
  | _=>none
 | .call _::_,_=>none
theorem qtz {call:Call} {fuel:Nat} {md:Md}:∀ {ds:List Dfr} {H H':Heap},qcv ds H=some H'->leave E call fuel ds md H=some (md,H')
 | [],H,H',h=>by simp only [qcv,zS] at h;simp [leave,h]
 | .mark nm::ds,H,H',h=>by
  simp only [qcv] at h
  simp only [leave]
  split at h
  .rename_i ho
   rw [ho]
   simp only [zI] at h ⊢
   obtain ⟨H1,h1,h2⟩:=h
   exact ⟨H1,h1,qtz h2⟩
  .cases h
 | .call d::ds,H,H',h=>by simp [qcv] at h
theorem qv6 {f:Nat} {fi:FI} {c:Code} {args:List V} {Q:V->Heap->Prop} (hs:E.spec f=none) (hf:E.funcs f=some fi) (hb:fi.body=some c)
  (h:Wp E f none c {tmps:=qec args,n:=max args.length fi.ntmps,defers:=[]} H fun e fr' H'=>(e=.normal∨e=.ret)/\∃ H'',qcv fr'.defers H'=some H''/\∃ vs,jc E fr' H'' fi.results=some vs/\Q (oneOf vs) H''):qc2 E (.func f) args H Q:=by
 obtain ⟨⟨e,fr',H'⟩,⟨k0,h1⟩,h2,H'',h3,vs,h4,h5⟩:=h
 refine ⟨oneOf vs,H'',⟨k0+1,fun k hk=>?_⟩,h5⟩
 obtain ⟨k,rfl⟩:∃ g,k=g+1:=⟨k-1,by omega⟩
 have hwo:q3p E (qam E k) (k+1) (e,fr',H')=some (.returning,fr',H''):=by
  have hl:=qtz (E:=E) (call:=qam E k) (fuel:=k+1) (md:=.returning) h3
  rcases h2 with rfl | rfl<;>simp [q3p,hl]
 simp only [qam,hs,hf,hb,zB,h1 k (by omega),hwo,qmp,h4,Option.map_some]
theorem qzu {f:Nat} {fi:FI} {args:List V} {v:V} {Q:V->Heap->Prop} (hs:E.spec f=none) (hf:E.funcs f=some fi) (hb:fi.body=none) (h:zek fi.ext args=some v) (hq:Q v H):qc2 E (.func f) args H Q:=
 ⟨v,H,⟨1,fun k hk=>by
  obtain ⟨k,rfl⟩:∃ g,k=g+1:=⟨k-1,by omega⟩
  simp only [qam,hs,hf,hb,zB,h,Option.map_some]⟩,hq⟩
structure Upd (fr:Fr) (d:Nat) (v:V) (fr':Fr):Prop where
 get:fr'.tmp d=some v
 other:∀ j,Nat.beq j d=false->fr'.tmp j=fr.tmp j
 n:fr'.n=fr.n
 ds:fr'.defers=fr.defers
theorem qqx {d:Nat} {v:V} (h:d<fr.n):Upd fr d v (fr.put (some d) v):=by
 obtain ⟨t,n,ds⟩:=fr
 have hb:Nat.blt d n=true:=by rw [Nat.blt_eq];exact h
 refine ⟨?_,fun j hj=>?_,?_,?_⟩
 .simp only [Fr.put,hb,cond_true,Fr.tmp,Tree.ku,if_true]
 .have hne:¬ j=d:=by
   intro he
   rw [he] at hj
   have:Nat.beq d d=true:=by rw [Nat.beq_eq]
   rw [this] at hj
   cases hj
  simp only [Fr.put,hb,cond_true,Fr.tmp,Tree.ku,if_neg hne]
 .simp only [Fr.put,hb,cond_true]
 .simp only [Fr.put,hb,cond_true]
theorem qis {o:Oper} (hg:o.guard=none):qcj o all fr=some true:=by simp only [qcj,hg]
theorem zc7 {o:Oper} {j d:Nat} {want b:Bool} (hg:o.guard=some (j,want)) (hj:(all[j]?).bind (·.dst)=some d) (hv:fr.tmp d=some (.bool b)):qcj o all fr=some (b == want):=by
 simp only [qcj,hg,hj,hv]
theorem zaw {o:Oper} {j d:Nat} {want:Bool} (hg:o.guard=some (j,want)) (hj:(all[j]?).bind (·.dst)=some d) (hv:fr.tmp d=some jr):qcj o all fr=some false:=by
 simp only [qcj,hg,hj,hv,jr]
theorem zr0 {o:Oper} {l:List Oper} {v:V} {H':Heap} {d:Nat} (hd:qia o=false) (hw:qcj o all fr=some true) (hdst:o.dst=some d) (hn:d<fr.n) (h:kh E o fr H=some (.val v,H')) (k:∀ fr',Upd fr d v fr'->WpO E nd all l fr' H' Q):WpO E nd all (o::l) fr H Q:=
 qkd hd hw h (by rw [hdst];exact k _ (qqx hn))
theorem qgg {t:Nat} {v:V} (h:fr.tmp t=some v):opd fr H (.tmp t)=some v:=h
theorem zfd {c:Value} {v:V} (h:ql7 1000 c=some v):opd fr H (.const c)=some v:=h
theorem zjx:qb2 fr H []=some []:=rfl
theorem qsk {x:Operand} {l:List Operand} {v:V} {vs:List V} (h:opd fr H x=some v) (h':qb2 fr H l=some vs):qb2 fr H (x::l)=some (v::vs):=by
 simp only [qb2,h,h',zB,Option.map_some]
section
variable {o:Oper}
theorem zbn {x:Operand} {v:V} (ho:o.op=.move x) (hx:opd fr H x=some v):kh E o fr H=some (.val v,H):=by simp only [kh,ho,hx,Option.map_some]
theorem qz2 {x:Operand} {v:V} (ho:o.op=.assign x) (hx:opd fr H x=some v):kh E o fr H=some (.val v,H):=by simp only [kh,ho,hx,Option.map_some]
theorem zfc {x:Operand} {v:V} (h:opd fr H x=some v):qkk fr H (some x)=some (some v):=by simp only [qkk,h,Option.map_some]
theorem q4j {lo hi d:Nat} {k:IntKind} {i:Int} (h:(lo:Int)<=i/\i<=hi):qag lo hi (some (.int k i)) d=some i.toNat:=by simp only [qag,h,and_self,if_true]
end
theorem zoi:jc E fr H []=some []:=rfl
theorem zoj {t:Nat} {v:V} {rs:List ResultVar} {vs:List V} (h:fr.tmp t=some v) (h':jc E fr H rs=some vs):jc E fr H (.tmp t::rs)=some (v::vs):=by
 simp only [jc,h,h',zB,Option.map_some]
theorem ends {rs:List ResultVar} {vs:List V} {R:V->Heap->Prop} (hd:fr.defers=[]) (hr:jc E fr H rs=some vs) (h:R (oneOf vs) H):∃ H'',qcv fr.defers H=some H''/\∃ vs,jc E fr H'' rs=some vs/\R (oneOf vs) H'':=
 ⟨H,by rw [hd];rfl,vs,hr,h⟩
theorem zr6 (hd:fr.defers=[]):qcv fr.defers H=some H:=by rw [hd];rfl
theorem q7m {next:Fr->Heap->Prop} (h:next fr H):q1h next Q .normal fr H:=h
theorem q4i {id id':Nat} (hn:¬ id'=id) (h:Q (.exit id') fr H):qor id Q (.exit id') fr H:=by
 simp only [qor,if_neg hn]
 exact h
theorem q8y {id:Nat} (h:Q .normal fr H):qor id Q (.exit id) fr H:=by
 simp only [qor,if_true]
 exact h
theorem qcd {t:Nat} {l:List Nat} (h:t ∈ l):({fr with tmps:=kq fr.tmps l .nil}:Fr).tmp t=fr.tmp t:=by
 simp only [Fr.tmp,js,h,if_true]
theorem qpm {o:Oper}:qcj o all {fr with tmps:=kq fr.tmps (o.looksAt all) .nil}=qcj o all fr:=by
 unfold qcj
 split
 .rfl
 .rename_i j want hg
  split
  .rfl
  .rename_i d hd
   rw [qcd]
   simp [Oper.looksAt,hg,hd]
def zm (b:Array Nat) (i:Nat) (done:List Done):List Done:=done.filter fun d=>!(b.getD i 0).testBit d.i
theorem qos {d:Done} {l:List Nat}:qb9 d l .none=false:=by
 obtain ⟨i,fp,lo,hi,ds⟩:=d
 cases fp<;>rfl
theorem qi8 {dels:List Nat}:qbn H (zp H .none dels) .none dels=H:=by
 simp only [qbn,zp,Nat.sub_self,List.range'_zero,kq]
theorem q4l {P:Program} {sp:Nat->Option (List V->Heap->Option (CR×Heap))} (hm:P.follows .mixedOrders=true) (hok:qlm P=true) (hsp:∀ f s,sp f=some s->qaz P f s) {f:FuncId} {g:Func} {c:Code} (hf:P.funcs[f]? = some g) (hname:(g.name == "runtime.NumGoroutine")=false) (hb:g.body=some c)
  {args:List V} {rargs:Array Value} {G:qe} {W:World} {R:V->Heap->Prop} (hs:Sim H G W) (hr:qk G W args rargs.toList) (h:qc2 (za P sp) (.func f) args H R) :
  Calls P f rargs W fun e w'=>∃ v H' x G',R v H'/\e=.returned x/\Rel G' w' v x/\Step H G W H' G' w':=by
 obtain ⟨v,H',⟨k0,h1⟩,h2⟩:=h
 have hc:qd1 P (qam (za P sp) k0):=qa2 hm (zo3 hok) (za6 hok) hsp k0
 refine (hc.calls hf hname hb (h1 k0 (zN _)) hs hr).mono fun e w' ⟨G',st,se⟩=>?_
 obtain ⟨x,rfl,hx⟩:=se
 exact ⟨v,H',x,G',h2,rfl,hx,st⟩
theorem qzy {args:List V} {n:Nat} {ds:List Dfr} {i:Nat} {v:V} (h:args[i]? = some v):({tmps:=qec args,n:=n,defers:=ds}:Fr).tmp i=some v:=by
 simp only [Fr.tmp,qec,Tree.qo0,h]
def WpD (E:Env) (all:Array Oper) (b:Array Nat) (i:Nat) (l:List Oper) (done:List Done) (fr:Fr) (H:Heap) (Q:Ex->Fr->Heap->Prop):Prop:=
 ∃ x:Fr×Heap,(∃ k0,∀ k,k0<=k->qct E (qam E k) all b i l done fr H=some x)/\Q .normal x.1 x.2
theorem q7q {id:Nat} {ops:Array Oper} (h:WpD E ops (Region.before ops) 0 ops.toList [] fr H Q):Wp E fn round (.region id ops true) fr H Q:=by
 obtain ⟨x,⟨k0,h1⟩,h2⟩:=h
 exact ⟨(.normal,x.1,x.2),⟨k0,fun k hk=>by simp only [zh,cond_true,h1 k hk,Option.map_some]⟩,h2⟩
section
variable {b:Array Nat} {i:Nat} {l:List Oper} {done:List Done} {o:Oper}
theorem zda (h:Q .normal fr H):WpD E all b i [] done fr H Q:=⟨(fr,H),⟨0,fun _ _=>rfl⟩,h⟩
theorem qck {fp:FP} {out:Out} {v:V} {K:Heap} (hw:qcj o all fr=some true) (hfp:qg0 E o fr=fp) (hnc:fp≠.call) (hcl:((zm b i done).any fun d=>qb9 d ((zm b i done).flatMap Done.names) fp)=false)
  (hev:kh E o {fr with tmps:=kq fr.tmps (o.looksAt all) .nil} (zp H fp ((zm b i done).flatMap Done.names))=some (out,K)) (hout:out=.val v∨(out=.skip/\v=jr)) (hlt:H.next<=K.next)
  (k:WpD E all b (i+1) l (⟨i,fp,H.next,K.next,(zm b i done).flatMap Done.names⟩::done) (fr.put o.dst v) (qbn H K fp ((zm b i done).flatMap Done.names)) Q):WpD E all b i (o::l) done fr H Q:=by
 obtain ⟨x,⟨k0,h1⟩,h2⟩:=k
 refine ⟨x,⟨k0,fun k hk=>?_⟩,h2⟩
 have hb:Nat.blt K.next H.next=false:=by
  rw [<-Bool.not_eq_true,Nat.blt_eq]
  omega
 have hr:qeq E (qam E k) all o {fr with tmps:=kq fr.tmps (o.looksAt all) .nil} (zp H fp ((zm b i done).flatMap Done.names))=some (.ret v,K):=by
  rcases hout with rfl | ⟨rfl,rfl⟩<;>simp only [qeq,qpm,hw,hev]
 have hcl':((done.filter fun d=>!(b.getD i 0).testBit d.i).any fun d=>qb9 d ((done.filter fun d=>!(b.getD i 0).testBit d.i).flatMap Done.names) fp)=false:=hcl
 have hr':qeq E (qam E k) all o {fr with tmps:=kq fr.tmps (o.looksAt all) .nil} (zp H fp ((done.filter fun d=>!(b.getD i 0).testBit d.i).flatMap Done.names))=some (.ret v,K):=hr
 have h1':=h1 k hk
 simp only [zm] at h1'
 simp only [qct,hw,zB,cond_true,hfp]
 cases fp with
 | call=>exact absurd rfl hnc
 | _=>simp only [hcl',cond_false,hr',hb];exact h1'
theorem zlm (hw:qcj o all fr=some false) (k:WpD E all b (i+1) l (⟨i,.none,H.next,H.next,(zm b i done).flatMap Done.names⟩::done) (fr.put o.dst jr) H Q):WpD E all b i (o::l) done fr H Q:=by
 obtain ⟨x,⟨k0,h1⟩,h2⟩:=k
 refine ⟨x,⟨k0,fun k hk=>?_⟩,h2⟩
 have hany:∀ (l:List Done) (dels:List Nat),(l.any fun d=>qb9 d dels .none)=false:=by
  intro l dels
  rw [<-Bool.not_eq_true,List.any_eq_true]
  rintro ⟨d,_,hc⟩
  rw [qos] at hc
  cases hc
 have hb:Nat.blt H.next H.next=false:=by
  rw [<-Bool.not_eq_true,Nat.blt_eq]
  omega
 have hnx:∀ dels,(zp H .none dels).next=H.next:=fun dels=>rfl
 simp only [qct,hw,zB,cond_false,hany,qeq,qpm,qi8,hnx,hb]
 exact h1 k hk
def Calm (B:Nat) (done:List Done):Prop:=∀ d ∈ done,(d.fp=.none∨∃ l,d.fp=.reads l)/\B<=d.lo
theorem zhe {B:Nat}:Calm B []:=fun d h=>by cases h
theorem zd9 {B:Nat} {d:Done} (h:d.fp=.none∨∃ l,d.fp=.reads l) (hb:B<=d.lo) (hd:Calm B done):Calm B (d::done):=by
 intro x hx
 rcases zD.1 hx with rfl | hx
 .exact ⟨h,hb⟩
 .exact hd x hx
theorem qv9 {B:Nat} (hc:Calm B done) {fp:FP} (hf:fp=.none∨∃ l,fp=.reads l) {dels:List Nat}:((zm b i done).any fun d=>qb9 d dels fp)=false:=by
 rw [<-Bool.not_eq_true,List.any_eq_true]
 rintro ⟨d,hd,h⟩
 have hm:=(hc d (List.mem_filter.1 hd).1).1
 obtain ⟨di,dfp,dlo,dhi,dd⟩:=d
 simp only at hm
 rcases hm with hm | ⟨l,hm⟩<;>rcases hf with rfl | ⟨l',rfl⟩<;>subst hm<;>cases h
theorem zea {B nm:Nat} (hc:Calm B done) (h:nm<B):nm ∉ (zm b i done).flatMap Done.names:=by
 intro hm
 obtain ⟨d,hd,hn⟩:=List.mem_flatMap.1 hm
 have h1:=(hc d (List.mem_filter.1 hd).1).2
 have h2:=(List.mem_range'_1.1 hn).1
 omega
theorem qka {l:List Nat} {dels:List Nat} {nm:Nat} (hl:nm ∈ l) (hn:nm<H.next) (hd:nm ∉ dels):(zp H (.reads l) dels).get nm=H.get nm:=by
 have hok:(Nat.blt nm H.next&&!dels.any fun m=>Nat.beq nm m)=true:=qpa hn hd
 simp only [zp,Heap.get,js]
 rw [if_pos (List.mem_filter.2 ⟨hl,hok⟩)]
theorem qj2 {l dels:List Nat}:qbn H (zp H (.reads l) dels) (.reads l) dels=H:=by
 simp only [qbn,zp,Nat.sub_self,List.range'_zero,kq]
end
section
variable {o:Oper}
theorem qqa {t:TypeId} {ti fi:TI} {x:Operand} {k nm g off lim:Nat} {f:Field} (ho:o.op=.fieldAddr t x k) (ht:E.types t=some ti) (hf:qf4 ti k=some f) (hfi:E.types f.type=some fi) (hz:Nat.beq fi.size 0=false) (hx:opd fr H x=some (.ptr nm g off lim)):kh E o fr H=some (.val (.ptr nm g (off+f.offset) lim),H):=by
 simp only [kh,ho,ht,hf,hfi,hz,hx,zB,cond_false]
end
theorem qce {x:O}:(H.new x).get H.next=some x:=by
 obtain ⟨t,n,r,g⟩:=H
 simp only [Heap.new,Heap.get,Tree.ku,if_true]
theorem qc4 {x:O} {nm:Nat} (h:nm<H.next):(H.new x).get nm=H.get nm:=by
 obtain ⟨t,n,r,g⟩:=H
 have:¬ nm=n:=by simp only at h;omega
 simp only [Heap.new,Heap.get,Tree.ku,if_neg this]
theorem qx {x:O}:(H.new x).next=H.next+1:=by cases H;rfl
theorem qyx {x:O}:(H.new x).zf=H.zf:=by cases H;rfl
theorem q5u {x:O}:(H.new x).ro=H.ro:=by cases H;rfl
def Heap.put (H:Heap) (nm:Nat) (x:O):Heap:={H with qbg:=H.qbg.set nm x}
theorem qcf {nm:Nat} {x:O} (h:H.ro<=nm):H.upd nm x=some (H.put nm x):=by
 obtain ⟨t,n,r,g⟩:=H
 have hb:Nat.blt nm r=false:=by
  rw [<-Bool.not_eq_true,Nat.blt_eq]
  simp only at h
  omega
 simp only [Heap.upd,hb,cond_false,Heap.put]
theorem qao {nm:Nat} {x:O}:(H.put nm x).get nm=some x:=by simp only [Heap.put,Heap.get,Tree.ku,if_true]
theorem qbq {nm m:Nat} {x:O} (h:m≠nm):(H.put nm x).get m=H.get m:=by simp only [Heap.put,Heap.get,Tree.ku,if_neg h]
structure Keeps (H H':Heap):Prop where
 next:H.next<=H'.next
 ro:H'.ro=H.ro
 zf:H'.zf=H.zf
 old:∀ nm,nm<H.next->H'.get nm=H.get nm
theorem Keeps.refl (H:Heap):Keeps H H:=⟨zN _,rfl,rfl,fun _ _=>rfl⟩
theorem Keeps.trans {H H' H'':Heap} (h:Keeps H H') (h':Keeps H' H''):Keeps H H'':=
 ⟨Nat.le_trans h.next h'.next,h'.ro.trans h.ro,h'.zf.trans h.zf,fun nm hn=>(h'.old nm (zL hn h.next)).trans (h.old nm hn)⟩
theorem Keeps.new {H H':Heap} (h:Keeps H H') (x:O):Keeps H (H'.new x):=
 ⟨by rw [qx];have:=h.next;omega,by rw [q5u];exact h.ro,by rw [qyx];exact h.zf,fun nm hn=>by rw [qc4 (zL hn h.next)];exact h.old nm hn⟩
theorem Keeps.put {H H':Heap} (h:Keeps H H') {nm:Nat} (hn:H.next<=nm) (x:O):Keeps H (H'.put nm x):=
 ⟨h.next,h.ro,h.zf,fun m hm=>by rw [qbq (by omega)];exact h.old m hm⟩
section
variable {b:Array Nat} {i:Nat} {l:List Oper} {done:List Done} {o:Oper}
theorem zev {x:O} {dels:List Nat}:qbn H ((zp H .none dels).new x) .none dels=H.new x:=by
 obtain ⟨t,n,r,g⟩:=H
 have h1:(Tree.nil.set n x:Tree O).get n=some x:=by rw [Tree.ku,if_pos rfl]
 simp only [qbn,zp,Heap.new,Nat.add_sub_cancel_left,List.range'_one,kq,h1]
theorem qlp {l:List Nat} {dels:List Nat} {nm:Nat} (hl:nm ∈ l) (hn:nm<H.next) (hd:nm ∉ dels):(zp H (.writes l) dels).get nm=H.get nm:=by
 have hok:(Nat.blt nm H.next&&!dels.any fun m=>Nat.beq nm m)=true:=qpa hn hd
 simp only [zp,Heap.get,js]
 rw [if_pos (List.mem_filter.2 ⟨hl,hok⟩)]
end
end
end Go.E2
