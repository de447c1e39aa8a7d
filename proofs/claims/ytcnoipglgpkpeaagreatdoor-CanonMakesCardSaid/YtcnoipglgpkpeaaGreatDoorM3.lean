/- A VERIFIED EVALUATOR, texts E2y in one. -/
import Derived.Test.YtcnoipglgpkpeaaGreatDoorM2
/- E2: RUNS OF E2's THAT NEED SO MUCH AND NO MORE: rules for code, one after the other, for proofs about whatever arguments. -/
namespace Go.E2
open Go
def zqj (E:Env) (t:Tgt) (args:List V) (H:Heap) (y:CR×Heap):Prop:=∃ k0,∀ k,k0<=k->jw E k t args H=some y
def qcr (E:Env) (t:Tgt) (args:List V) (H:Heap) (Q:V->Heap->Prop):Prop:=∃ v H',zqj E t args H (.ret v,H')/\Q v H'
def Wp (E:Env) (fn:FuncId) (round:Option Nat) (c:Code) (fr:Fr) (H:Heap) (Q:Ex->Fr->Heap->Prop):Prop:=
 ∃ x,(∃ k0,∀ k,k0<=k->zi E (jw E k) fn round (k+1) c fr H=some x)/\Q x.1 x.2.1 x.2.2
def WpO (E:Env) (nd:Bool) (all:Array Oper) (l:List Oper) (fr:Fr) (H:Heap) (Q:Ex->Fr->Heap->Prop):Prop:=
 ∃ x,(∃ k0,∀ k,k0<=k->qdq E (jw E k) nd all l fr H=some x)/\Q x.1 x.2.1 x.2.2
section
variable {E:Env} {fn:FuncId} {round:Option Nat} {nd:Bool} {all:Array Oper} {fr:Fr} {H:Heap} {Q:Ex->Fr->Heap->Prop}
theorem qcr.mono {t:Tgt} {args:List V} {Q Q':V->Heap->Prop} (h:qcr E t args H Q) (hq:∀ v H',Q v H'->Q' v H'):qcr E t args H Q':=by
 obtain ⟨v,H',h1,h2⟩:=h
 exact ⟨v,H',h1,hq _ _ h2⟩
theorem Wp.mono {c:Code} {Q':Ex->Fr->Heap->Prop} (h:Wp E fn round c fr H Q) (hq:∀ ex fr' H',Q ex fr' H'->Q' ex fr' H'):Wp E fn round c fr H Q':=by
 obtain ⟨x,h1,h2⟩:=h
 exact ⟨x,h1,hq _ _ _ h2⟩
theorem WpO.mono {l:List Oper} {Q':Ex->Fr->Heap->Prop} (h:WpO E nd all l fr H Q) (hq:∀ ex fr' H',Q ex fr' H'->Q' ex fr' H'):WpO E nd all l fr H Q':=by
 obtain ⟨x,h1,h2⟩:=h
 exact ⟨x,h1,hq _ _ _ h2⟩
theorem znb (h:Q .normal fr H):Wp E fn round .skip fr H Q:=⟨(.normal,fr,H),⟨0,fun _ _=>rfl⟩,h⟩
theorem zjd {l:Nat} (h:Q .normal fr H):Wp E fn round (.label l) fr H Q:=⟨(.normal,fr,H),⟨0,fun _ _=>rfl⟩,h⟩
theorem zqi (h:Q .ret fr H):Wp E fn round .ret fr H Q:=⟨(.ret,fr,H),⟨0,fun _ _=>rfl⟩,h⟩
theorem zm9 {id:Nat} (h:Q (.exit id) fr H):Wp E fn round (.exit id) fr H Q:=⟨(.exit id,fr,H),⟨0,fun _ _=>rfl⟩,h⟩
def q6l (next:Fr->Heap->Prop) (Q:Ex->Fr->Heap->Prop):Ex->Fr->Heap->Prop
 | .normal,fr,H=>next fr H
 | e,fr,H=>Q e fr H
theorem zjg {a b:Code} (h:Wp E fn round a fr H (q6l (fun fr' H'=>Wp E fn round b fr' H' Q) Q)):Wp E fn round (.seq a b) fr H Q:=by
 obtain ⟨⟨e,fr',H'⟩,⟨k0,h1⟩,h2⟩:=h
 cases e with
 | normal=>
  obtain ⟨x,⟨k1,h3⟩,h4⟩:=h2
  exact ⟨x,⟨max k0 k1,fun k hk=>by simp only [zi,h1 k (by omega),h3 k (by omega)]⟩,h4⟩
 | _=>exact ⟨_,⟨k0,fun k hk=>by simp only [zi,h1 k hk]⟩,h2⟩
theorem zm8 {c:Operand} {a b:Code} {t:Bool} (hc:opd fr H c=some (.bool t)) (h:Wp E fn round (if t then a else b) fr H Q):Wp E fn round (.cond c a b) fr H Q:=by
 obtain ⟨x,⟨k0,h1⟩,h2⟩:=h
 refine ⟨x,⟨k0,fun k hk=>?_⟩,h2⟩
 have:=h1 k hk
 cases t<;>simp only [zi,hc]<;>exact this
def qns (id:Nat) (Q:Ex->Fr->Heap->Prop):Ex->Fr->Heap->Prop
 | .exit id',fr,H=>if id'=id then Q .normal fr H else Q (.exit id') fr H
 | e,fr,H=>Q e fr H
theorem zjb {id:Nat} {c:Code} (h:Wp E fn round c fr H (qns id Q)):Wp E fn round (.block id c) fr H Q:=by
 obtain ⟨⟨e,fr',H'⟩,⟨k0,h1⟩,h2⟩:=h
 cases e with
 | exit id'=>
  simp only [qns] at h2
  by_cases hid:id'=id
  .rw [zT hid] at h2
   subst hid
   have hb:Nat.beq id' id'=true:=by rw [Nat.beq_eq]
   exact ⟨(.normal,fr',H'),⟨k0,fun k hk=>by simp only [zi,h1 k hk,hb,zO]⟩,h2⟩
  .rw [zF hid] at h2
   have hb:Nat.beq id' id=false:=by
    cases hq:Nat.beq id' id with
    | false=>rfl
    | true=>exact absurd (zE hq) hid
   exact ⟨(.exit id',fr',H'),⟨k0,fun k hk=>by simp only [zi,h1 k hk,hb,zQ]⟩,h2⟩
 | _=>exact ⟨_,⟨k0,fun k hk=>by simp only [zi,h1 k hk]⟩,h2⟩
theorem zjf {c:Code} (h:Wp E fn round c fr H (fun e fr' H'=>(∀ l,e≠.goto l)/\Q e fr' H')):Wp E fn round (.scope c) fr H Q:=by
 obtain ⟨⟨e,fr',H'⟩,⟨k0,h1⟩,h2,h3⟩:=h
 refine ⟨(e,fr',H'),⟨k0,fun k hk=>?_⟩,h3⟩
 simp only [zi,h1 k hk]
 all_goals first
  | rfl
  | (cases e with
   | goto l=>exact absurd rfl (h2 l)
   | _=>rfl)
theorem qto {c:Code} (Inv:Nat->Fr->Heap->Prop) {m:Nat} (h0:Inv m fr H)
  (h:∀ m fr H,Inv m fr H->Wp E fn round c fr H (q6l (fun fr' H'=>∃ m',m'<m/\Inv m' fr' H') Q)):Wp E fn round (.loop c) fr H Q:=by
 have key:∀ (m:Nat) (fr:Fr) (H:Heap) (s0:Ex),Inv m fr H->∃ x,(∃ k0 r,∀ k,k0<=k->∀ f,r<f->iter (fun (s:Ex×Fr×Heap)=>match zi E (jw E k) fn round (k+1) c s.2.1 s.2.2 with
   | some (.normal,fr',H')=>some (true,.normal,fr',H')
   | some r=>some (false,r)
   | none=>none) f (s0,fr,H)=some x)/\Q x.1 x.2.1 x.2.2:=by
  intro m
  induction m using Nat.strongRecOn with
  | _ m ih=>
   intro fr H s0 hi
   obtain ⟨⟨e,fr',H'⟩,⟨k0,h1⟩,h2⟩:=h m fr H hi
   cases e with
   | normal=>
    obtain ⟨m',hm,hi'⟩:=h2
    obtain ⟨x,⟨k1,r,h3⟩,h4⟩:=ih m' hm fr' H' .normal hi'
    refine ⟨x,⟨max k0 k1,r+1,fun k hk f hf=>?_⟩,h4⟩
    obtain ⟨f,rfl⟩:∃ g,f=g+1:=⟨f-1,by omega⟩
    simp only [iter,h1 k (by omega)]
    exact h3 k (by omega) f (by omega)
   | _=>
    refine ⟨_,⟨k0,0,fun k hk f hf=>?_⟩,h2⟩
    obtain ⟨f,rfl⟩:∃ g,f=g+1:=⟨f-1,by omega⟩
    simp only [iter,h1 k hk]
 obtain ⟨x,⟨k0,r,h1⟩,h2⟩:=key m fr H .normal h0
 exact ⟨x,⟨max k0 r,fun k hk=>by simp only [zi];exact h1 k (by omega) (k+1) (by omega)⟩,h2⟩
theorem zfe {id:Nat} {ops:Array Oper} (h:WpO E round.isNone ops ops.toList fr H Q):Wp E fn round (.region id ops false) fr H Q:=by
 obtain ⟨x,⟨k0,h1⟩,h2⟩:=h
 exact ⟨x,⟨k0,fun k hk=>by simp only [zi,zQ];exact h1 k hk⟩,h2⟩
theorem znd (h:Q .normal fr H):WpO E nd all [] fr H Q:=⟨(.normal,fr,H),⟨0,fun _ _=>rfl⟩,h⟩
def qkm (o:Oper):Bool:=match o.op with | .defer _=>true | _=>false
theorem qmx {call:Call} {o:Oper} {l:List Oper} (hd:qkm o=false):qdq E call nd all (o::l) fr H=match qd9 E call all o fr H with
   | some (.ret v,H')=>qdq E call nd all l (fr.put o.dst v) H'
   | some (.panic ch,H')=>some (.panic ch,fr,H')
   | none=>none:=by
 simp only [qdq]
 split
 .rename_i c ho
  simp [qkm,ho] at hd
 .rfl
theorem qh5 {o:Oper} {l:List Oper} {v:V} {H':Heap} (hd:qkm o=false) (hw:qb5 o all fr=some true) (h:kh E o fr H=some (.val v,H')) (k:WpO E nd all l (fr.put o.dst v) H' Q):WpO E nd all (o::l) fr H Q:=by
 obtain ⟨x,⟨k0,h1⟩,h2⟩:=k
 exact ⟨x,⟨k0,fun k hk=>by rw [qmx hd];simp only [qd9,hw,h];exact h1 k hk⟩,h2⟩
theorem qxc {o:Oper} {l:List Oper} {H':Heap} (hd:qkm o=false) (hw:qb5 o all fr=some true) (h:kh E o fr H=some (.skip,H')) (k:WpO E nd all l (fr.put o.dst kz) H' Q):WpO E nd all (o::l) fr H Q:=by
 obtain ⟨x,⟨k0,h1⟩,h2⟩:=k
 exact ⟨x,⟨k0,fun k hk=>by rw [qmx hd];simp only [qd9,hw,h];exact h1 k hk⟩,h2⟩
theorem zne {o:Oper} {l:List Oper} (hd:qkm o=false) (hw:qb5 o all fr=some false) (k:WpO E nd all l (fr.put o.dst kz) H Q):WpO E nd all (o::l) fr H Q:=by
 obtain ⟨x,⟨k0,h1⟩,h2⟩:=k
 exact ⟨x,⟨k0,fun k hk=>by rw [qmx hd];simp only [qd9,hw];exact h1 k hk⟩,h2⟩
theorem zji {o:Oper} {l:List Oper} {t:Tgt} {args:List V} {H1:Heap} (hd:qkm o=false) (hw:qb5 o all fr=some true) (h:kh E o fr H=some (.call t args,H1))
  (k:qcr E t args H1 fun v H'=>WpO E nd all l (fr.put o.dst v) H' Q):WpO E nd all (o::l) fr H Q:=by
 obtain ⟨v,H',⟨k1,h3⟩,⟨x,⟨k0,h1⟩,h2⟩⟩:=k
 refine ⟨x,⟨max k0 k1,fun k hk=>?_⟩,h2⟩
 rw [qmx hd]
 simp only [qd9,hw,h,h3 k (by omega)]
 exact h1 k (by omega)
theorem q72 {f:Nat} {args:List V} {s:List V->Heap->Option (CR×Heap)} {v:V} {H':Heap} {Q:V->Heap->Prop} (hs:E.spec f=some s) (h:s args H=some (.ret v,H')) (hq:Q v H'):qcr E (.func f) args H Q:=
 ⟨v,H',⟨1,fun k hk=>by
  obtain ⟨k,rfl⟩:∃ g,k=g+1:=⟨k-1,by omega⟩
  simp only [jw,hs,h]⟩,hq⟩
def qc3:List Dfr->Heap->Option Heap
 | [],H=>some H
 | .mark nm::ds,H=>match H.get nm with
  | some .dfr=>(H.upd nm .gone).bind fun H'=>qc3 ds H'
  | _=>none
 | .call _::_,_=>none
theorem qsm {call:Call} {fuel:Nat} {md:Md}:∀ {ds:List Dfr} {H H':Heap},qc3 ds H=some H'->leave E call fuel ds md H=some (md,H')
 | [],H,H',h=>by simp only [qc3,zS] at h;simp [leave,h]
 | .mark nm::ds,H,H',h=>by
  simp only [qc3] at h
  simp only [leave]
  split at h
  .rename_i ho
   rw [ho]
   simp only [zI] at h ⊢
   obtain ⟨H1,h1,h2⟩:=h
   exact ⟨H1,h1,qsm h2⟩
  .cases h
 | .call d::ds,H,H',h=>by simp [qc3] at h
theorem q71 {f:Nat} {fi:FI} {c:Code} {args:List V} {Q:V->Heap->Prop} (hs:E.spec f=none) (hf:E.funcs f=some fi) (hb:fi.body=some c)
  (h:Wp E f none c {tmps:=qey args,n:=max args.length fi.ntmps,defers:=[]} H fun e fr' H'=>(e=.normal∨e=.ret)/\∃ H'',qc3 fr'.defers H'=some H''/\∃ vs,jb E fr' H'' fi.results=some vs/\Q (oneOf vs) H''):qcr E (.func f) args H Q:=by
 obtain ⟨⟨e,fr',H'⟩,⟨k0,h1⟩,h2,H'',h3,vs,h4,h5⟩:=h
 refine ⟨oneOf vs,H'',⟨k0+1,fun k hk=>?_⟩,h5⟩
 obtain ⟨k,rfl⟩:∃ g,k=g+1:=⟨k-1,by omega⟩
 have hwo:q2o E (jw E k) (k+1) (e,fr',H')=some (.returning,fr',H''):=by
  have hl:=qsm (E:=E) (call:=jw E k) (fuel:=k+1) (md:=.returning) h3
  rcases h2 with rfl | rfl<;>simp [q2o,hl]
 simp only [jw,hs,hf,hb,zB,h1 k (by omega),hwo,qlv,h4,zH]
theorem zdi {f:Nat} {fi:FI} {args:List V} {v:V} {Q:V->Heap->Prop} (hs:E.spec f=none) (hf:E.funcs f=some fi) (hb:fi.body=none) (h:zg8 fi.ext args=some v) (hq:Q v H):qcr E (.func f) args H Q:=
 ⟨v,H,⟨1,fun k hk=>by
  obtain ⟨k,rfl⟩:∃ g,k=g+1:=⟨k-1,by omega⟩
  simp only [jw,hs,hf,hb,zB,h,zH]⟩,hq⟩
structure Upd (fr:Fr) (d:Nat) (v:V) (fr':Fr):Prop where
 get:fr'.tmp d=some v
 other:∀ j,Nat.beq j d=false->fr'.tmp j=fr.tmp j
 n:fr'.n=fr.n
 ds:fr'.defers=fr.defers
theorem zff {o:Oper} (hg:o.guard=none):qb5 o all fr=some true:=by simp only [qb5,hg]
theorem zbq {o:Oper} {j d:Nat} {want b:Bool} (hg:o.guard=some (j,want)) (hj:(all[j]?).bind (·.dst)=some d) (hv:fr.tmp d=some (.bool b)):qb5 o all fr=some (b == want):=by
 simp only [qb5,hg,hj,hv]
theorem q9l {o:Oper} {j d:Nat} {want:Bool} (hg:o.guard=some (j,want)) (hj:(all[j]?).bind (·.dst)=some d) (hv:fr.tmp d=some kz):qb5 o all fr=some false:=by
 simp only [qb5,hg,hj,hv,kz]
theorem zim:qbm fr H []=some []:=rfl
theorem qrh {x:Operand} {l:List Operand} {v:V} {vs:List V} (h:opd fr H x=some v) (h':qbm fr H l=some vs):qbm fr H (x::l)=some (v::vs):=by
 simp only [qbm,h,h',zB,zH]
section
variable {o:Oper}
theorem zep {x:Operand} {v:V} (h:opd fr H x=some v):qi2 fr H (some x)=some (some v):=by simp only [qi2,h,zH]
theorem q33 {lo hi d:Nat} {k:IntKind} {i:Int} (h:(lo:Int)<=i/\i<=hi):jg lo hi (some (.int k i)) d=some i.toNat:=by simp only [jg,h,and_self,if_true]
end
theorem ends {rs:List ResultVar} {vs:List V} {R:V->Heap->Prop} (hd:fr.defers=[]) (hr:jb E fr H rs=some vs) (h:R (oneOf vs) H):∃ H'',qc3 fr.defers H=some H''/\∃ vs,jb E fr H'' rs=some vs/\R (oneOf vs) H'':=
 ⟨H,by rw [hd];rfl,vs,hr,h⟩
theorem q31 {id id':Nat} (hn:¬ id'=id) (h:Q (.exit id') fr H):qns id Q (.exit id') fr H:=by
 simp only [qns,zF hn]
 exact h
theorem q7z {id:Nat} (h:Q .normal fr H):qns id Q (.exit id) fr H:=by
 simp only [qns,if_true]
 exact h
theorem qgb {t:Nat} {l:List Nat} (h:t ∈ l):({fr with tmps:=kf fr.tmps l .nil}:Fr).tmp t=fr.tmp t:=by
 simp only [Fr.tmp,k9,h,if_true]
theorem qoj {o:Oper}:qb5 o all {fr with tmps:=kf fr.tmps (o.looksAt all) .nil}=qb5 o all fr:=by
 unfold qb5
 split
 .rfl
 .rename_i j want hg
  split
  .rfl
  .rename_i d hd
   rw [qgb]
   simp [Oper.looksAt,hg,hd]
def zp (b:Array Nat) (i:Nat) (done:List Done):List Done:=done.filter fun d=>!(b.getD i 0).testBit d.i
theorem qu0 {d:Done} {l:List Nat}:qbq d l .none=false:=by
 obtain ⟨i,fp,lo,hi,ds⟩:=d
 cases fp<;>rfl
theorem qoa {dels:List Nat}:qb4 H (zz H .none dels) .none dels=H:=by
 simp only [qb4,zz,Nat.sub_self,List.range'_zero,kf]
theorem q35 {P:Program} {sp:Nat->Option (List V->Heap->Option (CR×Heap))} (hm:P.follows .mixedOrders=true) (hok:qky P=true) (hsp:∀ f s,sp f=some s->zu P f s) {f:FuncId} {g:Func} {c:Code} (hf:P.funcs[f]? = some g) (hname:(g.name == "runtime.NumGoroutine")=false) (hb:g.body=some c)
  {args:List V} {rargs:Array Value} {G:qh} {W:World} {R:V->Heap->Prop} (hs:Sim H G W) (hr:qn G W args rargs.toList) (h:qcr (qy P sp) (.func f) args H R) :
  Calls P f rargs W fun e w'=>∃ v H' x G',R v H'/\e=.returned x/\Rel G' w' v x/\Step H G W H' G' w':=by
 obtain ⟨v,H',⟨k0,h1⟩,h2⟩:=h
 have hc:qdg P (jw (qy P sp) k0):=qai hm (znh hok) (q91 hok) hsp k0
 refine (hc.calls hf hname hb (h1 k0 (zN _)) hs hr).mono fun e w' ⟨G',st,se⟩=>?_
 obtain ⟨x,rfl,hx⟩:=se
 exact ⟨v,H',x,G',h2,rfl,hx,st⟩
theorem zdt {args:List V} {n:Nat} {ds:List Dfr} {i:Nat} {v:V} (h:args[i]? = some v):({tmps:=qey args,n:=n,defers:=ds}:Fr).tmp i=some v:=by
 simp only [Fr.tmp,qey,Tree.qn3,h]
def WpD (E:Env) (all:Array Oper) (b:Array Nat) (i:Nat) (l:List Oper) (done:List Done) (fr:Fr) (H:Heap) (Q:Ex->Fr->Heap->Prop):Prop:=
 ∃ x:Fr×Heap,(∃ k0,∀ k,k0<=k->qb7 E (jw E k) all b i l done fr H=some x)/\Q .normal x.1 x.2
theorem zjc {id:Nat} {ops:Array Oper} (h:WpD E ops (Region.before ops) 0 ops.toList [] fr H Q):Wp E fn round (.region id ops true) fr H Q:=by
 obtain ⟨x,⟨k0,h1⟩,h2⟩:=h
 exact ⟨(.normal,x.1,x.2),⟨k0,fun k hk=>by simp only [zi,zO,h1 k hk,zH]⟩,h2⟩
section
variable {b:Array Nat} {i:Nat} {l:List Oper} {done:List Done} {o:Oper}
theorem znc (h:Q .normal fr H):WpD E all b i [] done fr H Q:=⟨(fr,H),⟨0,fun _ _=>rfl⟩,h⟩
theorem qdt {fp:FP} {out:Out} {v:V} {K:Heap} (hw:qb5 o all fr=some true) (hfp:qhk E o fr=fp) (hnc:fp≠.call) (hcl:((zp b i done).any fun d=>qbq d ((zp b i done).flatMap Done.names) fp)=false)
  (hev:kh E o {fr with tmps:=kf fr.tmps (o.looksAt all) .nil} (zz H fp ((zp b i done).flatMap Done.names))=some (out,K)) (hout:out=.val v∨(out=.skip/\v=kz)) (hlt:H.next<=K.next)
  (k:WpD E all b (i+1) l (⟨i,fp,H.next,K.next,(zp b i done).flatMap Done.names⟩::done) (fr.put o.dst v) (qb4 H K fp ((zp b i done).flatMap Done.names)) Q):WpD E all b i (o::l) done fr H Q:=by
 obtain ⟨x,⟨k0,h1⟩,h2⟩:=k
 refine ⟨x,⟨k0,fun k hk=>?_⟩,h2⟩
 have hb:Nat.blt K.next H.next=false:=by
  rw [<-Bool.not_eq_true,Nat.blt_eq]
  omega
 have hr:qd9 E (jw E k) all o {fr with tmps:=kf fr.tmps (o.looksAt all) .nil} (zz H fp ((zp b i done).flatMap Done.names))=some (.ret v,K):=by
  rcases hout with rfl | ⟨rfl,rfl⟩<;>simp only [qd9,qoj,hw,hev]
 have hcl':((done.filter fun d=>!(b.getD i 0).testBit d.i).any fun d=>qbq d ((done.filter fun d=>!(b.getD i 0).testBit d.i).flatMap Done.names) fp)=false:=hcl
 have hr':qd9 E (jw E k) all o {fr with tmps:=kf fr.tmps (o.looksAt all) .nil} (zz H fp ((done.filter fun d=>!(b.getD i 0).testBit d.i).flatMap Done.names))=some (.ret v,K):=hr
 have h1':=h1 k hk
 simp only [zp] at h1'
 simp only [qb7,hw,zB,zO,hfp]
 cases fp with
 | call=>exact absurd rfl hnc
 | _=>simp only [hcl',zQ,hr',hb];exact h1'
theorem zjh (hw:qb5 o all fr=some false) (k:WpD E all b (i+1) l (⟨i,.none,H.next,H.next,(zp b i done).flatMap Done.names⟩::done) (fr.put o.dst kz) H Q):WpD E all b i (o::l) done fr H Q:=by
 obtain ⟨x,⟨k0,h1⟩,h2⟩:=k
 refine ⟨x,⟨k0,fun k hk=>?_⟩,h2⟩
 have hany:∀ (l:List Done) (dels:List Nat),(l.any fun d=>qbq d dels .none)=false:=by
  intro l dels
  rw [<-Bool.not_eq_true,List.any_eq_true]
  rintro ⟨d,_,hc⟩
  rw [qu0] at hc
  cases hc
 have hb:Nat.blt H.next H.next=false:=by
  rw [<-Bool.not_eq_true,Nat.blt_eq]
  omega
 have hnx:∀ dels,(zz H .none dels).next=H.next:=fun dels=>rfl
 simp only [qb7,hw,zB,zQ,hany,qd9,qoj,qoa,hnx,hb]
 exact h1 k hk
theorem qji {l:List Nat} {dels:List Nat} {nm:Nat} (hl:nm ∈ l) (hn:nm<H.next) (hd:nm ∉ dels):(zz H (.reads l) dels).get nm=H.get nm:=by
 have hok:(Nat.blt nm H.next&&!dels.any fun m=>Nat.beq nm m)=true:=qoc hn hd
 simp only [zz,Heap.get,k9]
 rw [zT (List.mem_filter.2 ⟨hl,hok⟩)]
theorem qjc {l dels:List Nat}:qb4 H (zz H (.reads l) dels) (.reads l) dels=H:=by
 simp only [qb4,zz,Nat.sub_self,List.range'_zero,kf]
end
section
variable {o:Oper}
end
theorem qa3 {x:O}:(H.new x).get H.next=some x:=by
 obtain ⟨t,n,r,g⟩:=H
 simp only [Heap.new,Heap.get,Tree.kq,if_true]
theorem qci {x:O} {nm:Nat} (h:nm<H.next):(H.new x).get nm=H.get nm:=by
 obtain ⟨t,n,r,g⟩:=H
 have:¬ nm=n:=by simp only at h;omega
 simp only [Heap.new,Heap.get,Tree.kq,zF this]
theorem zc {x:O}:(H.new x).next=H.next+1:=by cases H;rfl
theorem qxq {x:O}:(H.new x).zb=H.zb:=by cases H;rfl
theorem q48 {x:O}:(H.new x).ro=H.ro:=by cases H;rfl
def Heap.put (H:Heap) (nm:Nat) (x:O):Heap:={H with qa0:=H.qa0.set nm x}
theorem qbs {nm:Nat} {x:O} (h:H.ro<=nm):H.upd nm x=some (H.put nm x):=by
 obtain ⟨t,n,r,g⟩:=H
 have hb:Nat.blt nm r=false:=by
  rw [<-Bool.not_eq_true,Nat.blt_eq]
  simp only at h
  omega
 simp only [Heap.upd,hb,zQ,Heap.put]
theorem qaj {nm:Nat} {x:O}:(H.put nm x).get nm=some x:=by simp only [Heap.put,Heap.get,Tree.kq,if_true]
theorem qa8 {nm m:Nat} {x:O} (h:m≠nm):(H.put nm x).get m=H.get m:=by simp only [Heap.put,Heap.get,Tree.kq,zF h]
structure Keeps (H H':Heap):Prop where
 next:H.next<=H'.next
 ro:H'.ro=H.ro
 zb:H'.zb=H.zb
 old:∀ nm,nm<H.next->H'.get nm=H.get nm
theorem Keeps.refl (H:Heap):Keeps H H:=⟨zN _,rfl,rfl,fun _ _=>rfl⟩
theorem Keeps.trans {H H' H'':Heap} (h:Keeps H H') (h':Keeps H' H''):Keeps H H'':=
 ⟨zR h.next h'.next,h'.ro.trans h.ro,h'.zb.trans h.zb,fun nm hn=>(h'.old nm (zL hn h.next)).trans (h.old nm hn)⟩
theorem Keeps.new {H H':Heap} (h:Keeps H H') (x:O):Keeps H (H'.new x):=
 ⟨by rw [zc];have:=h.next;omega,by rw [q48];exact h.ro,by rw [qxq];exact h.zb,fun nm hn=>by rw [qci (zL hn h.next)];exact h.old nm hn⟩
theorem Keeps.put {H H':Heap} (h:Keeps H H') {nm:Nat} (hn:H.next<=nm) (x:O):Keeps H (H'.put nm x):=
 ⟨h.next,h.ro,h.zb,fun m hm=>by rw [qa8 (by omega)];exact h.old m hm⟩
section
variable {b:Array Nat} {i:Nat} {l:List Oper} {done:List Done} {o:Oper}
theorem zd9 {x:O} {dels:List Nat}:qb4 H ((zz H .none dels).new x) .none dels=H.new x:=by
 obtain ⟨t,n,r,g⟩:=H
 have h1:(Tree.nil.set n x:Tree O).get n=some x:=by rw [Tree.kq,zT rfl]
 simp only [qb4,zz,Heap.new,Nat.add_sub_cancel_left,List.range'_one,kf,h1]
theorem qk3 {l:List Nat} {dels:List Nat} {nm:Nat} (hl:nm ∈ l) (hn:nm<H.next) (hd:nm ∉ dels):(zz H (.writes l) dels).get nm=H.get nm:=by
 have hok:(Nat.blt nm H.next&&!dels.any fun m=>Nat.beq nm m)=true:=qoc hn hd
 simp only [zz,Heap.get,k9]
 rw [zT (List.mem_filter.2 ⟨hl,hok⟩)]
end
end
end Go.E2
