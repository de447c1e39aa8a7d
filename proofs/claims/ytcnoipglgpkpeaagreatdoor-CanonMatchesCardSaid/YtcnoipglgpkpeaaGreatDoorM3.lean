/- A VERIFIED EVALUATOR, texts E2y in one. -/
import Derived.Test.YtcnoipglgpkpeaaGreatDoorM2
/- E2: RUNS OF E2's THAT NEED SO MUCH AND NO MORE: rules for code, one after the other, for proofs about whatever arguments. -/
namespace Go.E2
open Go
def zko (E:Env) (t:Tgt) (args:List V) (H:Heap) (y:CR×Heap):Prop:=∃ k0,∀ k,k0<=k->jn E k t args H=some y
def qcc (E:Env) (t:Tgt) (args:List V) (H:Heap) (Q:V->Heap->Prop):Prop:=∃ v H',zko E t args H (.ret v,H')/\Q v H'
def Wp (E:Env) (fn:FuncId) (round:Option Nat) (c:Code) (fr:Fr) (H:Heap) (Q:Ex->Fr->Heap->Prop):Prop:=
 ∃ x,(∃ k0,∀ k,k0<=k->zc E (jn E k) fn round (k+1) c fr H=some x)/\Q x.1 x.2.1 x.2.2
def WpO (E:Env) (nd:Bool) (all:Array Oper) (l:List Oper) (fr:Fr) (H:Heap) (Q:Ex->Fr->Heap->Prop):Prop:=
 ∃ x,(∃ k0,∀ k,k0<=k->qdb E (jn E k) nd all l fr H=some x)/\Q x.1 x.2.1 x.2.2
section
variable {E:Env} {fn:FuncId} {round:Option Nat} {nd:Bool} {all:Array Oper} {fr:Fr} {H:Heap} {Q:Ex->Fr->Heap->Prop}
theorem qcc.mono {t:Tgt} {args:List V} {Q Q':V->Heap->Prop} (h:qcc E t args H Q) (hq:∀ v H',Q v H'->Q' v H'):qcc E t args H Q':=by
 obtain ⟨v,H',h1,h2⟩:=h
 exact ⟨v,H',h1,hq _ _ h2⟩
theorem Wp.mono {c:Code} {Q':Ex->Fr->Heap->Prop} (h:Wp E fn round c fr H Q) (hq:∀ ex fr' H',Q ex fr' H'->Q' ex fr' H'):Wp E fn round c fr H Q':=by
 obtain ⟨x,h1,h2⟩:=h
 exact ⟨x,h1,hq _ _ _ h2⟩
theorem WpO.mono {l:List Oper} {Q':Ex->Fr->Heap->Prop} (h:WpO E nd all l fr H Q) (hq:∀ ex fr' H',Q ex fr' H'->Q' ex fr' H'):WpO E nd all l fr H Q':=by
 obtain ⟨x,h1,h2⟩:=h
 exact ⟨x,h1,hq _ _ _ h2⟩
theorem zht (h:Q .normal fr H):Wp E fn round .skip fr H Q:=⟨(.normal,fr,H),⟨0,fun _ _=>rfl⟩,h⟩
theorem zeh {l:Nat} (h:Q .normal fr H):Wp E fn round (.label l) fr H Q:=⟨(.normal,fr,H),⟨0,fun _ _=>rfl⟩,h⟩
theorem zkn (h:Q .ret fr H):Wp E fn round .ret fr H Q:=⟨(.ret,fr,H),⟨0,fun _ _=>rfl⟩,h⟩
theorem zhr {id:Nat} (h:Q (.exit id) fr H):Wp E fn round (.exit id) fr H Q:=⟨(.exit id,fr,H),⟨0,fun _ _=>rfl⟩,h⟩
def q3d (next:Fr->Heap->Prop) (Q:Ex->Fr->Heap->Prop):Ex->Fr->Heap->Prop
 | .normal,fr,H=>next fr H
 | e,fr,H=>Q e fr H
theorem zek {a b:Code} (h:Wp E fn round a fr H (q3d (fun fr' H'=>Wp E fn round b fr' H' Q) Q)):Wp E fn round (.seq a b) fr H Q:=by
 obtain ⟨⟨e,fr',H'⟩,⟨k0,h1⟩,h2⟩:=h
 cases e with
 | normal=>
  obtain ⟨x,⟨k1,h3⟩,h4⟩:=h2
  exact ⟨x,⟨max k0 k1,fun k hk=>by simp only [zc,h1 k (by omega),h3 k (by omega)]⟩,h4⟩
 | _=>exact ⟨_,⟨k0,fun k hk=>by simp only [zc,h1 k hk]⟩,h2⟩
theorem zhq {c:Operand} {a b:Code} {t:Bool} (hc:opd fr H c=some (.bool t)) (h:Wp E fn round (if t then a else b) fr H Q):Wp E fn round (.cond c a b) fr H Q:=by
 obtain ⟨x,⟨k0,h1⟩,h2⟩:=h
 refine ⟨x,⟨k0,fun k hk=>?_⟩,h2⟩
 have:=h1 k hk
 cases t<;>simp only [zc,hc]<;>exact this
def qm0 (id:Nat) (Q:Ex->Fr->Heap->Prop):Ex->Fr->Heap->Prop
 | .exit id',fr,H=>if id'=id then Q .normal fr H else Q (.exit id') fr H
 | e,fr,H=>Q e fr H
theorem zef {id:Nat} {c:Code} (h:Wp E fn round c fr H (qm0 id Q)):Wp E fn round (.block id c) fr H Q:=by
 obtain ⟨⟨e,fr',H'⟩,⟨k0,h1⟩,h2⟩:=h
 cases e with
 | exit id'=>
  simp only [qm0] at h2
  by_cases hid:id'=id
  .rw [zT hid] at h2
   subst hid
   have hb:Nat.beq id' id'=true:=by rw [Nat.beq_eq]
   exact ⟨(.normal,fr',H'),⟨k0,fun k hk=>by simp only [zc,h1 k hk,hb,zO]⟩,h2⟩
  .rw [zF hid] at h2
   have hb:Nat.beq id' id=false:=by
    cases hq:Nat.beq id' id with
    | false=>rfl
    | true=>exact absurd (zE hq) hid
   exact ⟨(.exit id',fr',H'),⟨k0,fun k hk=>by simp only [zc,h1 k hk,hb,zQ]⟩,h2⟩
 | _=>exact ⟨_,⟨k0,fun k hk=>by simp only [zc,h1 k hk]⟩,h2⟩
theorem zej {c:Code} (h:Wp E fn round c fr H (fun e fr' H'=>(∀ l,e≠.goto l)/\Q e fr' H')):Wp E fn round (.scope c) fr H Q:=by
 obtain ⟨⟨e,fr',H'⟩,⟨k0,h1⟩,h2,h3⟩:=h
 refine ⟨(e,fr',H'),⟨k0,fun k hk=>?_⟩,h3⟩
 simp only [zc,h1 k hk]
 all_goals first
  | rfl
  | (cases e with
   | goto l=>exact absurd rfl (h2 l)
   | _=>rfl)
theorem qse {c:Code} (Inv:Nat->Fr->Heap->Prop) {m:Nat} (h0:Inv m fr H)
  (h:∀ m fr H,Inv m fr H->Wp E fn round c fr H (q3d (fun fr' H'=>∃ m',m'<m/\Inv m' fr' H') Q)):Wp E fn round (.loop c) fr H Q:=by
 have key:∀ (m:Nat) (fr:Fr) (H:Heap) (s0:Ex),Inv m fr H->∃ x,(∃ k0 r,∀ k,k0<=k->∀ f,r<f->iter (fun (s:Ex×Fr×Heap)=>match zc E (jn E k) fn round (k+1) c s.2.1 s.2.2 with
   | some (.normal,fr',H')=>some (true,.normal,fr',H')
   | some r=>some (false,r)
   | none=>none) f (s0,fr,H)=some x)/\Q x.1 x.2.1 x.2.2:=by
  intro m
  induction m using Nat.strongRecOn with
  | _ m ih=>
   intro fr H s0 hi
   obtain ⟨⟨e,fr',H'⟩,⟨k0,h1⟩,h2⟩:=h m fr H hi
   cases e with
   | normal=>
    obtain ⟨m',hm,hi'⟩:=h2
    obtain ⟨x,⟨k1,r,h3⟩,h4⟩:=ih m' hm fr' H' .normal hi'
    refine ⟨x,⟨max k0 k1,r+1,fun k hk f hf=>?_⟩,h4⟩
    obtain ⟨f,rfl⟩:∃ g,f=g+1:=⟨f-1,by omega⟩
    simp only [iter,h1 k (by omega)]
    exact h3 k (by omega) f (by omega)
   | _=>
    refine ⟨_,⟨k0,0,fun k hk f hf=>?_⟩,h2⟩
    obtain ⟨f,rfl⟩:∃ g,f=g+1:=⟨f-1,by omega⟩
    simp only [iter,h1 k hk]
 obtain ⟨x,⟨k0,r,h1⟩,h2⟩:=key m fr H .normal h0
 exact ⟨x,⟨max k0 r,fun k hk=>by simp only [zc];exact h1 k (by omega) (k+1) (by omega)⟩,h2⟩
theorem zam {id:Nat} {ops:Array Oper} (h:WpO E round.isNone ops ops.toList fr H Q):Wp E fn round (.region id ops false) fr H Q:=by
 obtain ⟨x,⟨k0,h1⟩,h2⟩:=h
 exact ⟨x,⟨k0,fun k hk=>by simp only [zc,zQ];exact h1 k hk⟩,h2⟩
theorem zhv (h:Q .normal fr H):WpO E nd all [] fr H Q:=⟨(.normal,fr,H),⟨0,fun _ _=>rfl⟩,h⟩
def qjz (o:Oper):Bool:=match o.op with | .defer _=>true | _=>false
theorem ql7 {call:Call} {o:Oper} {l:List Oper} (hd:qjz o=false):qdb E call nd all (o::l) fr H=match qdx E call all o fr H with
   | some (.ret v,H')=>qdb E call nd all l (fr.put o.dst v) H'
   | some (.panic ch,H')=>some (.panic ch,fr,H')
   | none=>none:=by
 simp only [qdb]
 split
 .rename_i c ho
  simp [qjz,ho] at hd
 .rfl
theorem qhm {o:Oper} {l:List Oper} {v:V} {H':Heap} (hd:qjz o=false) (hw:qbm o all fr=some true) (h:z5 E o fr H=some (.val v,H')) (k:WpO E nd all l (fr.put o.dst v) H' Q):WpO E nd all (o::l) fr H Q:=by
 obtain ⟨x,⟨k0,h1⟩,h2⟩:=k
 exact ⟨x,⟨k0,fun k hk=>by rw [ql7 hd];simp only [qdx,hw,h];exact h1 k hk⟩,h2⟩
theorem qvf {o:Oper} {l:List Oper} {H':Heap} (hd:qjz o=false) (hw:qbm o all fr=some true) (h:z5 E o fr H=some (.skip,H')) (k:WpO E nd all l (fr.put o.dst kj) H' Q):WpO E nd all (o::l) fr H Q:=by
 obtain ⟨x,⟨k0,h1⟩,h2⟩:=k
 exact ⟨x,⟨k0,fun k hk=>by rw [ql7 hd];simp only [qdx,hw,h];exact h1 k hk⟩,h2⟩
theorem zhw {o:Oper} {l:List Oper} (hd:qjz o=false) (hw:qbm o all fr=some false) (k:WpO E nd all l (fr.put o.dst kj) H Q):WpO E nd all (o::l) fr H Q:=by
 obtain ⟨x,⟨k0,h1⟩,h2⟩:=k
 exact ⟨x,⟨k0,fun k hk=>by rw [ql7 hd];simp only [qdx,hw];exact h1 k hk⟩,h2⟩
theorem zem {o:Oper} {l:List Oper} {t:Tgt} {args:List V} {H1:Heap} (hd:qjz o=false) (hw:qbm o all fr=some true) (h:z5 E o fr H=some (.call t args,H1))
  (k:qcc E t args H1 fun v H'=>WpO E nd all l (fr.put o.dst v) H' Q):WpO E nd all (o::l) fr H Q:=by
 obtain ⟨v,H',⟨k1,h3⟩,⟨x,⟨k0,h1⟩,h2⟩⟩:=k
 refine ⟨x,⟨max k0 k1,fun k hk=>?_⟩,h2⟩
 rw [ql7 hd]
 simp only [qdx,hw,h,h3 k (by omega)]
 exact h1 k (by omega)
theorem q4b {f:Nat} {args:List V} {s:List V->Heap->Option (CR×Heap)} {v:V} {H':Heap} {Q:V->Heap->Prop} (hs:E.spec f=some s) (h:s args H=some (.ret v,H')) (hq:Q v H'):qcc E (.func f) args H Q:=
 ⟨v,H',⟨1,fun k hk=>by
  obtain ⟨k,rfl⟩:∃ g,k=g+1:=⟨k-1,by omega⟩
  simp only [jn,hs,h]⟩,hq⟩
def qcn:List Dfr->Heap->Option Heap
 | [],H=>some H
 | .mark nm::ds,H=>match H.get nm with
  | some .dfr=>(H.upd nm .gone).bind fun H'=>qcn ds H'
  | _=>none
 | .call _::_,_=>none
theorem qrd {call:Call} {fuel:Nat} {md:Md}:∀ {ds:List Dfr} {H H':Heap},qcn ds H=some H'->leave E call fuel ds md H=some (md,H')
 | [],H,H',h=>by simp only [qcn,zS] at h;simp [leave,h]
 | .mark nm::ds,H,H',h=>by
  simp only [qcn] at h
  simp only [leave]
  split at h
  .rename_i ho
   rw [ho]
   simp only [zI] at h ⊢
   obtain ⟨H1,h1,h2⟩:=h
   exact ⟨H1,h1,qrd h2⟩
  .cases h
 | .call d::ds,H,H',h=>by simp [qcn] at h
theorem q4a {f:Nat} {fi:FI} {c:Code} {args:List V} {Q:V->Heap->Prop} (hs:E.spec f=none) (hf:E.funcs f=some fi) (hb:fi.body=some c)
  (h:Wp E f none c {tmps:=qel args,n:=max args.length fi.ntmps,defers:=[]} H fun e fr' H'=>(e=.normal∨e=.ret)/\∃ H'',qcn fr'.defers H'=some H''/\∃ vs,kv E fr' H'' fi.results=some vs/\Q (oneOf vs) H''):qcc E (.func f) args H Q:=by
 obtain ⟨⟨e,fr',H'⟩,⟨k0,h1⟩,h2,H'',h3,vs,h4,h5⟩:=h
 refine ⟨oneOf vs,H'',⟨k0+1,fun k hk=>?_⟩,h5⟩
 obtain ⟨k,rfl⟩:∃ g,k=g+1:=⟨k-1,by omega⟩
 have hwo:qz3 E (jn E k) (k+1) (e,fr',H')=some (.returning,fr',H''):=by
  have hl:=qrd (E:=E) (call:=jn E k) (fuel:=k+1) (md:=.returning) h3
  rcases h2 with rfl | rfl<;>simp [qz3,hl]
 simp only [jn,hs,hf,hb,zB,h1 k (by omega),hwo,qk5,h4,zH]
theorem q8z {f:Nat} {fi:FI} {args:List V} {v:V} {Q:V->Heap->Prop} (hs:E.spec f=none) (hf:E.funcs f=some fi) (hb:fi.body=none) (h:zb5 fi.ext args=some v) (hq:Q v H):qcc E (.func f) args H Q:=
 ⟨v,H,⟨1,fun k hk=>by
  obtain ⟨k,rfl⟩:∃ g,k=g+1:=⟨k-1,by omega⟩
  simp only [jn,hs,hf,hb,zB,h,zH]⟩,hq⟩
structure Upd (fr:Fr) (d:Nat) (v:V) (fr':Fr):Prop where
 get:fr'.tmp d=some v
 other:∀ j,Nat.beq j d=false->fr'.tmp j=fr.tmp j
 n:fr'.n=fr.n
 ds:fr'.defers=fr.defers
theorem zan {o:Oper} (hg:o.guard=none):qbm o all fr=some true:=by simp only [qbm,hg]
theorem q7s {o:Oper} {j d:Nat} {want b:Bool} (hg:o.guard=some (j,want)) (hj:(all[j]?).bind (·.dst)=some d) (hv:fr.tmp d=some (.bool b)):qbm o all fr=some (b == want):=by
 simp only [qbm,hg,hj,hv]
theorem q5v {o:Oper} {j d:Nat} {want:Bool} (hg:o.guard=some (j,want)) (hj:(all[j]?).bind (·.dst)=some d) (hv:fr.tmp d=some kj):qbm o all fr=some false:=by
 simp only [qbm,hg,hj,hv,kj]
theorem zdk:qa5 fr H []=some []:=rfl
theorem qqh {x:Operand} {l:List Operand} {v:V} {vs:List V} (h:opd fr H x=some v) (h':qa5 fr H l=some vs):qa5 fr H (x::l)=some (v::vs):=by
 simp only [qa5,h,h',zB,zH]
section
variable {o:Oper}
theorem q91 {x:Operand} {v:V} (h:opd fr H x=some v):qil fr H (some x)=some (some v):=by simp only [qil,h,zH]
theorem q02 {lo hi d:Nat} {k:IntKind} {i:Int} (h:(lo:Int)<=i/\i<=hi):k7 lo hi (some (.int k i)) d=some i.toNat:=by simp only [k7,h,and_self,if_true]
end
theorem ends {rs:List ResultVar} {vs:List V} {R:V->Heap->Prop} (hd:fr.defers=[]) (hr:kv E fr H rs=some vs) (h:R (oneOf vs) H):∃ H'',qcn fr.defers H=some H''/\∃ vs,kv E fr H'' rs=some vs/\R (oneOf vs) H'':=
 ⟨H,by rw [hd];rfl,vs,hr,h⟩
theorem q01 {id id':Nat} (hn:¬ id'=id) (h:Q (.exit id') fr H):qm0 id Q (.exit id') fr H:=by
 simp only [qm0,zF hn]
 exact h
theorem q38 {id:Nat} (h:Q .normal fr H):qm0 id Q (.exit id) fr H:=by
 simp only [qm0,if_true]
 exact h
theorem qfz {t:Nat} {l:List Nat} (h:t ∈ l):({fr with tmps:=zx fr.tmps l .nil}:Fr).tmp t=fr.tmp t:=by
 simp only [Fr.tmp,kq,h,if_true]
theorem qnr {o:Oper}:qbm o all {fr with tmps:=zx fr.tmps (o.looksAt all) .nil}=qbm o all fr:=by
 unfold qbm
 split
 .rfl
 .rename_i j want hg
  split
  .rfl
  .rename_i d hd
   rw [qfz]
   simp [Oper.looksAt,hg,hd]
def zk (b:Array Nat) (i:Nat) (done:List Done):List Done:=done.filter fun d=>!(b.getD i 0).testBit d.i
theorem qtc {d:Done} {l:List Nat}:qa7 d l .none=false:=by
 obtain ⟨i,fp,lo,hi,ds⟩:=d
 cases fp<;>rfl
theorem qng {dels:List Nat}:qbl H (zp H .none dels) .none dels=H:=by
 simp only [qbl,zp,Nat.sub_self,List.range'_zero,zx]
theorem q04 {P:Program} {sp:Nat->Option (List V->Heap->Option (CR×Heap))} (hm:P.follows .mixedOrders=true) (hok:qkb P=true) (hsp:∀ f s,sp f=some s->zn P f s) {f:FuncId} {g:Func} {c:Code} (hf:P.funcs[f]? = some g) (hname:(g.name == "runtime.NumGoroutine")=false) (hb:g.body=some c)
  {args:List V} {rargs:Array Value} {G:qd} {W:World} {R:V->Heap->Prop} (hs:Sim H G W) (hr:qk G W args rargs.toList) (h:qcc (qq P sp) (.func f) args H R) :
  Calls P f rargs W fun e w'=>∃ v H' x G',R v H'/\e=.returned x/\Rel G' w' v x/\Step H G W H' G' w':=by
 obtain ⟨v,H',⟨k0,h1⟩,h2⟩:=h
 have hc:qc1 P (jn (qq P sp) k0):=j7 hm (zh2 hok) (q6a hok) hsp k0
 refine (hc.calls hf hname hb (h1 k0 (zN _)) hs hr).mono fun e w' ⟨G',st,se⟩=>?_
 obtain ⟨x,rfl,hx⟩:=se
 exact ⟨v,H',x,G',h2,rfl,hx,st⟩
theorem q86 {args:List V} {n:Nat} {ds:List Dfr} {i:Nat} {v:V} (h:args[i]? = some v):({tmps:=qel args,n:=n,defers:=ds}:Fr).tmp i=some v:=by
 simp only [Fr.tmp,qel,Tree.qna,h]
def WpD (E:Env) (all:Array Oper) (b:Array Nat) (i:Nat) (l:List Oper) (done:List Done) (fr:Fr) (H:Heap) (Q:Ex->Fr->Heap->Prop):Prop:=
 ∃ x:Fr×Heap,(∃ k0,∀ k,k0<=k->qbo E (jn E k) all b i l done fr H=some x)/\Q .normal x.1 x.2
theorem zeg {id:Nat} {ops:Array Oper} (h:WpD E ops (Region.before ops) 0 ops.toList [] fr H Q):Wp E fn round (.region id ops true) fr H Q:=by
 obtain ⟨x,⟨k0,h1⟩,h2⟩:=h
 exact ⟨(.normal,x.1,x.2),⟨k0,fun k hk=>by simp only [zc,zO,h1 k hk,zH]⟩,h2⟩
section
variable {b:Array Nat} {i:Nat} {l:List Oper} {done:List Done} {o:Oper}
theorem zhu (h:Q .normal fr H):WpD E all b i [] done fr H Q:=⟨(fr,H),⟨0,fun _ _=>rfl⟩,h⟩
theorem qdf {fp:FP} {out:Out} {v:V} {K:Heap} (hw:qbm o all fr=some true) (hfp:qg2 E o fr=fp) (hnc:fp≠.call) (hcl:((zk b i done).any fun d=>qa7 d ((zk b i done).flatMap Done.names) fp)=false)
  (hev:z5 E o {fr with tmps:=zx fr.tmps (o.looksAt all) .nil} (zp H fp ((zk b i done).flatMap Done.names))=some (out,K)) (hout:out=.val v∨(out=.skip/\v=kj)) (hlt:H.next<=K.next)
  (k:WpD E all b (i+1) l (⟨i,fp,H.next,K.next,(zk b i done).flatMap Done.names⟩::done) (fr.put o.dst v) (qbl H K fp ((zk b i done).flatMap Done.names)) Q):WpD E all b i (o::l) done fr H Q:=by
 obtain ⟨x,⟨k0,h1⟩,h2⟩:=k
 refine ⟨x,⟨k0,fun k hk=>?_⟩,h2⟩
 have hb:Nat.blt K.next H.next=false:=by
  rw [<-Bool.not_eq_true,Nat.blt_eq]
  omega
 have hr:qdx E (jn E k) all o {fr with tmps:=zx fr.tmps (o.looksAt all) .nil} (zp H fp ((zk b i done).flatMap Done.names))=some (.ret v,K):=by
  rcases hout with rfl | ⟨rfl,rfl⟩<;>simp only [qdx,qnr,hw,hev]
 have hcl':((done.filter fun d=>!(b.getD i 0).testBit d.i).any fun d=>qa7 d ((done.filter fun d=>!(b.getD i 0).testBit d.i).flatMap Done.names) fp)=false:=hcl
 have hr':qdx E (jn E k) all o {fr with tmps:=zx fr.tmps (o.looksAt all) .nil} (zp H fp ((done.filter fun d=>!(b.getD i 0).testBit d.i).flatMap Done.names))=some (.ret v,K):=hr
 have h1':=h1 k hk
 simp only [zk] at h1'
 simp only [qbo,hw,zB,zO,hfp]
 cases fp with
 | call=>exact absurd rfl hnc
 | _=>simp only [hcl',zQ,hr',hb];exact h1'
theorem zel (hw:qbm o all fr=some false) (k:WpD E all b (i+1) l (⟨i,.none,H.next,H.next,(zk b i done).flatMap Done.names⟩::done) (fr.put o.dst kj) H Q):WpD E all b i (o::l) done fr H Q:=by
 obtain ⟨x,⟨k0,h1⟩,h2⟩:=k
 refine ⟨x,⟨k0,fun k hk=>?_⟩,h2⟩
 have hany:∀ (l:List Done) (dels:List Nat),(l.any fun d=>qa7 d dels .none)=false:=by
  intro l dels
  rw [<-Bool.not_eq_true,List.any_eq_true]
  rintro ⟨d,_,hc⟩
  rw [qtc] at hc
  cases hc
 have hb:Nat.blt H.next H.next=false:=by
  rw [<-Bool.not_eq_true,Nat.blt_eq]
  omega
 have hnx:∀ dels,(zp H .none dels).next=H.next:=fun dels=>rfl
 simp only [qbo,hw,zB,zQ,hany,qdx,qnr,qng,hnx,hb]
 exact h1 k hk
theorem qi0 {l:List Nat} {dels:List Nat} {nm:Nat} (hl:nm ∈ l) (hn:nm<H.next) (hd:nm ∉ dels):(zp H (.reads l) dels).get nm=H.get nm:=by
 have hok:(Nat.blt nm H.next&&!dels.any fun m=>Nat.beq nm m)=true:=qnj hn hd
 simp only [zp,Heap.get,kq]
 rw [zT (List.mem_filter.2 ⟨hl,hok⟩)]
theorem qiv {l dels:List Nat}:qbl H (zp H (.reads l) dels) (.reads l) dels=H:=by
 simp only [qbl,zp,Nat.sub_self,List.range'_zero,zx]
end
section
variable {o:Oper}
end
theorem qaq {x:O}:(H.new x).get H.next=some x:=by
 obtain ⟨t,n,r,g⟩:=H
 simp only [Heap.new,Heap.get,Tree.ka,if_true]
theorem qb1 {x:O} {nm:Nat} (h:nm<H.next):(H.new x).get nm=H.get nm:=by
 obtain ⟨t,n,r,g⟩:=H
 have:¬ nm=n:=by simp only at h;omega
 simp only [Heap.new,Heap.get,Tree.ka,zF this]
theorem qu {x:O}:(H.new x).next=H.next+1:=by cases H;rfl
theorem qvo {x:O}:(H.new x).qt=H.qt:=by cases H;rfl
theorem q14 {x:O}:(H.new x).ro=H.ro:=by cases H;rfl
def Heap.put (H:Heap) (nm:Nat) (x:O):Heap:={H with qap:=H.qap.set nm x}
theorem qa9 {nm:Nat} {x:O} (h:H.ro<=nm):H.upd nm x=some (H.put nm x):=by
 obtain ⟨t,n,r,g⟩:=H
 have hb:Nat.blt nm r=false:=by
  rw [<-Bool.not_eq_true,Nat.blt_eq]
  simp only at h
  omega
 simp only [Heap.upd,hb,zQ,Heap.put]
theorem j8 {nm:Nat} {x:O}:(H.put nm x).get nm=some x:=by simp only [Heap.put,Heap.get,Tree.ka,if_true]
theorem qau {nm m:Nat} {x:O} (h:m≠nm):(H.put nm x).get m=H.get m:=by simp only [Heap.put,Heap.get,Tree.ka,zF h]
structure Keeps (H H':Heap):Prop where
 next:H.next<=H'.next
 ro:H'.ro=H.ro
 qt:H'.qt=H.qt
 old:∀ nm,nm<H.next->H'.get nm=H.get nm
theorem Keeps.refl (H:Heap):Keeps H H:=⟨zN _,rfl,rfl,fun _ _=>rfl⟩
theorem Keeps.trans {H H' H'':Heap} (h:Keeps H H') (h':Keeps H' H''):Keeps H H'':=
 ⟨zR h.next h'.next,h'.ro.trans h.ro,h'.qt.trans h.qt,fun nm hn=>(h'.old nm (zL hn h.next)).trans (h.old nm hn)⟩
theorem Keeps.new {H H':Heap} (h:Keeps H H') (x:O):Keeps H (H'.new x):=
 ⟨by rw [qu];have:=h.next;omega,by rw [q14];exact h.ro,by rw [qvo];exact h.qt,fun nm hn=>by rw [qb1 (zL hn h.next)];exact h.old nm hn⟩
theorem Keeps.put {H H':Heap} (h:Keeps H H') {nm:Nat} (hn:H.next<=nm) (x:O):Keeps H (H'.put nm x):=
 ⟨h.next,h.ro,h.qt,fun m hm=>by rw [qau (by omega)];exact h.old m hm⟩
section
variable {b:Array Nat} {i:Nat} {l:List Oper} {done:List Done} {o:Oper}
theorem q9k {x:O} {dels:List Nat}:qbl H ((zp H .none dels).new x) .none dels=H.new x:=by
 obtain ⟨t,n,r,g⟩:=H
 have h1:(Tree.nil.set n x:Tree O).get n=some x:=by rw [Tree.ka,zT rfl]
 simp only [qbl,zp,Heap.new,Nat.add_sub_cancel_left,List.range'_one,zx,h1]
theorem qkd {l:List Nat} {dels:List Nat} {nm:Nat} (hl:nm ∈ l) (hn:nm<H.next) (hd:nm ∉ dels):(zp H (.writes l) dels).get nm=H.get nm:=by
 have hok:(Nat.blt nm H.next&&!dels.any fun m=>Nat.beq nm m)=true:=qnj hn hd
 simp only [zp,Heap.get,kq]
 rw [zT (List.mem_filter.2 ⟨hl,hok⟩)]
end
end
end Go.E2
