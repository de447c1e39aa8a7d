/- A VERIFIED EVALUATOR, texts E2o, E2p, E2q, E2r, E2x, E2s, E2t, E2u, E2v, E2z, E2y in one. -/
import Derived.Test.YtpdphcekmhajdaaGreatDoorM1
import Derived.TacticsIn
import Derived.LoopNIn
import Derived.RangeFuncLeaves
import Derived.RangeFuncCalls
import Derived.RecoverIn
import Derived.Laws.Externs
import Derived.Lib.Bytealg
import Derived.Lib.Builder
import Derived.ChangeSame
import Derived.RowKit
import Derived.OpenShut
import Derived.Deep.DeepHandedRow
/- E2: CODE: what E2 makes of it the model makes of it. -/
namespace Go.E2
open Go
def qgq (F:Fence):Prop:=(∀ f,F.fn f)/\F.depth=none/\F.alive=false
theorem qgq.inRound {F:Fence} (h:qgq F) (l:Nat):qgq (F.inRound l):=h
def qxs (G:qe) (w:World) (p:PE) (q:PanicEntry):Prop:=Rel G w p.v q.v/\p.recovered=q.recovered/\p.goexit=q.goexit
def qoj (G:qe) (w:World):List PE->List PanicEntry->Prop
 | [],l=>l=[]
 | p::ps,l=>∃ q a,l=q::a/\qxs G w p q/\qoj G w ps a
def qxr (G:qe) (w:World):Ex->Exit->Prop
 | .normal,e=>e=.normal
 | .exit id,e=>e=.exit id
 | .goto l,e=>e=.goto l
 | .ret,e=>e=.ret
 | .panic b,e=>∃ a,e=.panic a/\qoj G w b a
def qse (H:Heap) (G:qe) (w:World) (x:Ex×Fr×Heap):Exit->Act->World->Prop:=
 λe b w'=>∃ a,Step H G w x.2.2 a w'/\SimFr a w' x.2.1 b/\qxr a w' x.1 e
def qkl (G:qe) (w:World):CR->Ending->Prop
 | .ret v,e=>∃ x,e=.returned x/\Rel G w v x
 | .panic b,e=>∃ a,e=.panicked a/\qoj G w b a
def qg5 (P:Program) (c:Call):Prop:=
 ∀ i args H r H',c i args H=some (r,H')->∀ G w t a,Sim H G w->zkl G w i args t a->
  (∃ x w' g v,(invoke t a).run P w=.ok (.value x) w'/\Step H G w H' g w'/\r=.ret v/\Rel g w' v x)∨
  (∃ f b,(invoke t a).run P w=.ok (.enter f b) w/\∀ F n,qgq F->CallsIn F n P f b w λe w'=>∃ g,Step H G w H' g w'/\qkl g w' r e)∨
  (∃ l f h d body,(invoke t a).run P w=.ok (.round l f h d body) w/\∀ F n,qgq F->RoundIn F n P l f h d body w λe w'=>∃ g,Step H G w H' g w'/\qkl g w' r e)
section
variable {P:Program} {sp:Nat->Option (List V->Heap->Option (CR×Heap))} {call:Call} {H:Heap} {G:qe} {w:World} {fr:Fr} {a:Act} {F:Fence} {n:Nat}
theorem zsk {v:V} {b:Bool} (h:Rel G w v (.bool b)) (a:∀ c,v≠.bool c):False:=by
 cases v<;>simp only [Rel,reduceCtorEq,false_and,and_false,exists_false] at h
 all_goals first
  | exact a _ rfl
  | (split at h<;>simp at h;done)
  | grind
theorem q1a {o:Oper} {all:Array Oper} (e:SimFr G w fr a) {b:Bool} (h:qdh o all fr=some b):Region.wanted o (yielded all a.tmps)=b:=by
 unfold Region.wanted;unfold qdh at h;cases q:o.guard with
 | none=>rw [q] at h;simp at h;simp [h]
 | some g=>
  obtain ⟨j,r⟩:=g;rw [q] at h;simp only at h ⊢;cases i:(all[j]?).bind (·.dst) with
  | none=>rw [i] at h;simp at h;simp [yielded,i,h]
  | some t=>
   rw [i] at h;simp only at h;split at h
   .rename_i k l;have c:=qm3 e l;simp only [yielded,i,zB];simp only [Rel] at c;have d:a.tmps[t]? = some (.bool k):=by
     cases f:a.tmps[t]? with
     | none=>rw [Array.getD_eq_getD_getElem?,f] at c;simp [undef] at c
     | some y=>rw [Array.getD_eq_getD_getElem?,f] at c;simpa using c
    simpa [d] using h
   .rename_i v m l;have c:=qm3 e l;simp only [yielded,i,zB];cases h;have n:∀ b,a.tmps[t]?≠some (.bool b):=by
     intro b f;have s:a.tmps.getD t undef=.bool b:=by rw [Array.getD_eq_getD_getElem?,f];rfl
     rw [s] at c;exact zsk c (λk p=>m k (by rw [p]))
    cases f:a.tmps[t]? with
    | none=>simp
    | some y=>
     cases y<;>first
      | (exact absurd f (n _))
      | simp
   .cases h
theorem qop (b:qgq F) {o:Oper}:∀ f,o.about P w a.eval=some f->F.fn f:=λf _=>b.1 f
theorem qpx (L:qg5 P call) (k:qgq F) (m:Sim H G w) (e:SimFr G w fr a) {all:Array Oper} {o:Oper} {r:CR} {H':Heap} (h:qft (zj P sp) call all o fr H=some (r,H'))
  {K:Act->World->Prop} {Q:Exit->Act->World->Prop} (u:∀ v y w' g,r=.ret v->Step H G w H' g w'->Rel g w' v y->K (a.put o.dst y) w')
  (C:∀ w' g A i,r=.panic A->Step H G w H' g w'->qoj g w' A i->Q (.panic i) a w') :
  if Region.wanted o (yielded all a.tmps) then o.wpIn F n P a w K Q else (∀ f,o.about P w a.eval=some f->F.fn f)/\K (a.put o.dst undef) w:=by
 unfold qft at h;split at h
 .rename_i D;rw [q1a e D,zT rfl];have j:∀ c,kc (zj P sp) o fr H≠none->o.op≠.defer c:=by
   intro c E M;apply E;simp only [kc,M]
  split at h
  .rename_i v H1 b;cases h;obtain ⟨y,w',g,p,q,N⟩:=qnf m e b;refine ⟨qop k,?_⟩;rw [Oper.semAt_eq _ _ _ (λc=>j c (by rw [b];simp)),p];exact u _ _ _ _ rfl q N
  .rename_i H1 b;cases h;obtain ⟨w',g,p,q⟩:=qnf m e b;refine ⟨qop k,?_⟩;rw [Oper.semAt_eq _ _ _ (λc=>j c (by rw [b];simp)),p];exact u _ _ _ _ rfl q q34
  .rename_i O args H1 b;obtain ⟨rfl,t,I,p,q⟩:=qnf m e b;refine ⟨qop k,?_⟩;rw [Oper.semAt_eq _ _ _ (λc=>j c (by rw [b];simp)),p];have J:F.depth.isSome=true->1<=n:=by rw [k.2.1];simp
   rcases L _ _ _ _ _ h _ _ _ _ m q with ⟨y,w',g,U,r1,x,R,S⟩ | ⟨f,B,r1,x⟩ | ⟨l,f,tmps,assign,body,r1,x⟩
   .subst R;rw [r1];exact u _ _ _ _ rfl x S
   .rw [r1];refine ⟨J,(x F (n-1) k).mono λT w' s=>?_⟩;obtain ⟨g,z,d⟩:=s;cases r with
    | ret v=>obtain ⟨y,rfl,d⟩:=d;exact u _ _ _ _ rfl z d
    | panic A=>obtain ⟨i,rfl,d⟩:=d;exact C _ _ _ _ rfl z d
   .rw [r1];refine ⟨J,(x F (n-1) k).mono λT w' s=>?_⟩;obtain ⟨g,z,d⟩:=s;cases r with
    | ret v=>obtain ⟨y,rfl,d⟩:=d;exact u _ _ _ _ rfl z d
    | panic A=>obtain ⟨i,rfl,d⟩:=d;exact C _ _ _ _ rfl z d
  .rename_i v H1 b;cases h;obtain ⟨rfl,y,p,q⟩:=qnf m e b;refine ⟨qop k,?_⟩;rw [Oper.semAt_eq _ _ _ (λc=>j c (by rw [b];simp)),p];refine C w G _ _ rfl (Step.refl m) ?_;simp only [qoj,qxs];exact ⟨_,_,rfl,⟨q,rfl,rfl⟩,rfl⟩
  .cases h
 .rename_i D;rw [q1a e D];simp only [Bool.false_eq_true,if_false];cases h;exact ⟨qop k,u _ _ _ _ rfl (Step.refl m) q34⟩
 .cases h
theorem qse.trans {H':Heap} {c:qe} {w':World} (h:Step H G w H' c w') {x:Ex×Fr×Heap} {ex:Exit} {d:Act} {a:World} (e:qse H' c w' x ex d a):qse H G w x ex d a:=by
 obtain ⟨b,f,g,i⟩:=e;exact ⟨b,h.trans f,g,i⟩
theorem qtq (i:qg5 P call) (j:qgq F) {s:Bool} (k:s=true->F.round=none) {all:Array Oper}:∀ (l:List Oper) (H:Heap) (G:qe) (w:World) (fr:Fr) (a:Act) (x:Ex×Fr×Heap) (Q:Exit->Act->World->Prop),Sim H G w->SimFr G w fr a->
  qhr (zj P sp) call s all l fr H=some x->(∀ e t w',qse H G w x e t w'->Q e t w')->wpListIn F n P all Q l a w
 | [],H,G,w,fr,a,x,Q,f,e,h,g=>by
  simp only [qhr,zS] at h;subst h;exact g _ _ _ ⟨G,Step.refl f,e,rfl⟩
 | o::l,H,G,w,fr,a,x,Q,f,e,h,g=>by
  simp only [qhr] at h;split at h
  .rename_i v H' m;refine qpx i j f e m (λu y w' c p b q=>?_) (λw' c z d r=>by cases r);cases p;exact qtq i j k l H' c w' _ _ x Q b.sim ((e.ext b.ext).put _ q) h (λe A B C=>g _ _ _ (C.trans b))
  .rename_i z H' m;cases h;refine qpx i j f e m (λu y w' c p=>by cases p) (λw' c D d r b q=>?_);cases r;exact g _ _ _ ⟨c,b,e.ext b.ext,⟨d,rfl,q⟩⟩
  .cases h
def zbb (P:Program) (sp:Nat->Option (List V->Heap->Option (CR×Heap))) (call:Call):Prop:=
 ∀ (b:Array Oper) (fr:Fr) (H:Heap) (fr':Fr) (H':Heap),qc6 (zj P sp) call b (Region.before b) 0 b.toList [] fr H=some (fr',H')->qyl b=true->
  ∀ (G:qe) (w:World) (a:Act) (F:Fence) (n:Nat) (id:Nat) (Q:Exit->Act->World->Prop),qgq F->Sim H G w->SimFr G w fr a->(∀ e c w',qse H G w (.normal,fr',H') e c w'->Q e c w')->(Code.region id b true).wpIn F n P Q a w
def qkm (G:qe):Option Nat->Option Nat->Prop
 | none,r=>r=none
 | some l,r=>∃ b a n,G l 0=some (b,a,n)/\r=some b
theorem qkm.sub {G a:qe} (h:∀ nm g x,G nm g=some x->a nm g=some x) {r c:Option Nat} (e:qkm G r c):qkm a r c:=by
 cases r with
 | none=>exact e
 | some l=>obtain ⟨b,d,n,f,i⟩:=e;exact ⟨b,d,n,h _ _ _ f,i⟩
theorem qg0 {b:Frame} {k:List Item} {cs:List Frame} {c:Code}:step P (lone (b.atR a (.code (.scope c)::k)) cs w)=.next (lone (b.atR a (.code c::.inScope c::k)) cs w):=
 step_lone_go (by simp [stepG,stepG.exec,Frame.atR])
theorem q18 {b:Frame} {k:List Item} {cs:List Frame} {c:Code}:step P (lone (b.atR a (.inScope c::k)) cs w)=.next (lone (b.atR a k) cs w):=
 step_lone_go (by simp [stepG,stepG.exec,Frame.atR])
def noGoto (Q:Exit->Act->World->Prop):Exit->Act->World->Prop
 | .goto _,_,_=>False
 | e,a,w=>Q e a w
theorem zdq {c:Code} {Q:Exit->Act->World->Prop} (h:c.wpIn F n P (noGoto Q) a w):(Code.scope c).wpIn F n P Q a w:=by
 intro b k cs m o p;have f:(lone (b.atR a (.code (.scope c)::k)) cs w).fenced P F:=fenced_calm o p rfl;obtain ⟨e,i,j,g,d⟩:=h b (.inScope c::k) cs m o p;cases e with
 | normal=>exact ⟨.normal,i,j,g,.head f qg0 (StepsIn.trans d (.one (fenced_calm o p rfl) q18))⟩
 | exit id=>
  refine ⟨.exit id,i,j,g,λs q=>.head f qg0 (d.1 s (by simp [exitTo,q])),λr q=>?_⟩;obtain ⟨t,u,v⟩:=d.2 r (by simp [exitTo,q]);exact ⟨t,u,.head f qg0 v⟩
 | goto l=>exact g.elim
 | ret=>exact ⟨.ret,i,j,g,.of_steps (.one f qg0) d⟩
 | panic x=>exact ⟨.panic x,i,j,g,.of_steps (.one f qg0) d⟩
 | outgrown=>exact ⟨.outgrown,i,j,g,.of_steps (b:=b) (k:=k) (cs:=cs) (e:=.outgrown) (.one f qg0) d⟩
theorem qbr.append {c:List Dfr}:∀ {l:List Deferred} {a:List Dfr} {b:List Deferred},qbr G w c l->qbr G w a b->qbr G w (c++a) (l++b):=by
 induction c with
 | nil=>intro l a b h e;simp only [qbr] at h;subst h;exact e
 | cons d c f=>
  intro l a b h e;cases d with
  | mark nm=>
   simp only [qbr] at h;obtain ⟨x,g,rfl,i,j⟩:=h;simp only [List.cons_append,qbr];exact ⟨x,g++b,rfl,f i e,j⟩
theorem q53 {b:Nat} {L:Loop} (h:w.heap[b]? = some (.loop L)):w.shape? b=none:=by simp only [World.shape?,h]
theorem run_getObj_loop {b:Nat} {L:Loop} (h:w.heap[b]? = some (.loop L)):(getObj b).run P w=.ok (.loop L) w:=by simp [getObj,Sem.run,h]
theorem run_setObj_loop {b:Nat} {L:Loop} {o:Obj} (h:w.heap[b]? = some (.loop L)):(setObj b o).run P w=.ok () (qpy w b o):=by simp [setObj,Sem.run,h,qpy]
theorem run_getLoop {b:Nat} {L:Loop} (h:w.heap[b]? = some (.loop L)):(Instr.getLoop b).run P w=.ok L w:=by simp [Instr.getLoop,run_getObj_loop h]
theorem Sim.q6z (j:Sim H G w) {l:Nat} {st e:LoopState} {c a:Option Code} {lt:Tree V} {ln:Nat} {r:List Tmp} {s t:Code} {u:Nat} (v:H.get l=some (.loop st c lt ln r s t u)) {b x n:Nat} (h:G l 0=some (b,x,n))
  {H':Heap} (hu:H.upd l (.loop e a lt ln r s t u)=some H'):∃ L,w.heap[b]? = some (.loop L)/\L.state=st/\L.pending=c/\Step H G w H' G (qpy w b (.loop {L with state:=e,pending:=a})):=by
 obtain ⟨y,rfl⟩:=qi9 hu;have f:=j.obj l _ (j.lt _ _ _ _ _ h).2 v;obtain ⟨_,L,i,z,A,B,C,D,E,k,F,I,J,m,K,o,p⟩:=f 0 b x n h;refine ⟨L,i,z,A,j.setObj _ v h y _ i (q53 i) (λg M N q O d=>?_)⟩;obtain ⟨P,Q,R,_⟩:=f M N q O d;subst P;rw [h] at d;cases d;exact ⟨rfl,_,qo8 i,rfl,rfl,B,C,D,E,k,F,I.ext g,J,m,K,o,p⟩
theorem q1r (f:Sim H G w) {l b g n:Nat} (i:G l 0=some (b,g,n)) {ex:Ex} {H':Heap} (h:qfy H l=some (ex,H')) :
  ∃ a w',(Instr.endLoop b).run P w=.ok a w'/\Step H G w H' G w'/\qfi a=some ex:=by
 unfold qfy at h;split at h
 .rename_i st c lt ln r s t u j;split at h
  .cases h
  .rename_i d;simp only [zI,zM,zP] at h;obtain ⟨H1,k,ex',m,rfl,rfl⟩:=h;obtain ⟨L,e,o,p,st1⟩:=f.q6z j i k;subst p;refine ⟨L.pending,_,?_,st1,m⟩;have q:¬ (L.state == .busy)=true:=by
    rw [o];cases st<;>first
     | (exact (d rfl).elim)
     | decide
   simp only [Instr.endLoop,Sem.run_bind,run_getLoop e,Result.andThen_ok,q,Bool.false_eq_true,if_false,run_setObj_loop e,Sem.run_pure]
 .cases h
theorem q8e (i:Sim H G w) {round:Option Nat} (e:qkm G round F.round) {mark:List Dfr} {H1:Heap} {r:Nat} (h:qud round H=some (mark,H1,r)) :
  ∃ k w1 a j f m,Step H G w H1 k w1/\qbr k w1 mark a/\k r 0=some (j,f,m)/\
   ∀ fn tmps ps assign body,(Instr.enterLoop fn tmps ps assign body F.round).run P w=.ok (w1.heap.size,a) (push w1 (.loop {state:=.ready,pending:=none,fn,tmps,params:=ps,assign,body,defers:=j})):=by
 unfold qud at h;split at h
 .cases h;simp only [qkm] at e;have st:=i.new .dfr (.deferred (some [])) 0 (λ_ g b s n c=>by
   simp only [qh0] at c;by_cases o:g=0
   .rw [zT ⟨trivial,o⟩] at c;cases c;exact ⟨o,qda _ _⟩
   .rw [zF (λx=>o x.2),i.fresh] at c;cases c)
  refine ⟨_,_,[{target:=.collected w.heap.size,args:=#[]}],w.heap.size,0,0,st,?_,qc7 _ _ _ _,λfn tmps ps assign body=>?_⟩
  .simp only [qbr];exact ⟨_,_,rfl,rfl,w.heap.size,0,0,qc7 _ _ _ _,rfl⟩
  .rw [e];simp only [Instr.enterLoop,Sem.run_bind,run_newObj,Sem.run_pure,Result.andThen_ok];rfl
 .rename_i l;split at h
  .rename_i d t;cases h;obtain ⟨b,s,n,c,u⟩:=e;obtain ⟨_,L,v,z,A,B,C,D,E,y,I,J,j,f,m,p,q⟩:=i.obj l _ (i.lt _ _ _ _ _ c).2 t 0 b s n c;refine ⟨G,w,[],j,f,m,Step.refl i,by simp only [qbr],p,λfn tmps ps assign body=>?_⟩;rw [u];simp only [Instr.enterLoop,Sem.run_bind,run_getLoop v,run_newObj,Sem.run_pure,Result.andThen_ok,q];rfl
  .cases h
theorem Sim.zsj (j:Sim H G w) {fr:Fr} {a:Act} (e:SimFr G w fr a) {ps:Array Tmp} {assign body:Code} (m:codeOk assign=true) (o:codeOk body=true) {k h d l:Nat} (p:G k 0=some (h,d,l)) (fn:FuncId) :
  Step H G w (H.new (.loop .ready none fr.tmps fr.n ps.toList assign body k)) (qh0 G H.next 0 (w.heap.size,0,0)) (push w (.loop {state:=.ready,pending:=none,fn,tmps:=a.tmps,params:=ps,assign,body,defers:=h})):=by
 refine j.new _ _ 0 (λc g b q n f=>?_);simp only [qh0] at f;by_cases i:g=0
 .rw [zT ⟨trivial,i⟩] at f;cases f;exact ⟨i,_,qda _ _,rfl,rfl,rfl,rfl,rfl,m,o,e.n,e.tmps.ext c,h,d,l,c.sub _ _ _ p,rfl⟩
 .rw [zF (λx=>i x.2),j.fresh] at f;cases f
theorem qrp {f:Nat} (h:qnj (zj P sp) f=true):∃ a c,P.funcs[f]? = some a/\(a.name == "runtime.NumGoroutine")=false/\a.body=some c:=by
 simp only [qnj,zj,funcOf] at h;cases d:P.funcs[f]? with
 | none=>rw [d] at h;simp at h
 | some a=>
  rw [d] at h;simp only [cond_eq_ite] at h;by_cases b:(a.name == "runtime.NumGoroutine")=true
  .rw [zT b] at h;simp at h
  .rw [zF b] at h;cases e:a.body with
   | none=>rw [e] at h;simp at h
   | some c=>exact ⟨a,c,rfl,by simpa using b,e⟩
theorem qbt {f:FuncId} {fn:Func} {c:Code} (b:P.funcs[f]? = some fn) (a:(fn.name == "runtime.NumGoroutine")=false) (d:fn.body=some c) (args:Array Value) (w:World) :
  (callFunc f args).run P w=.ok (.enter f args) w:=by
 have e:fn.name≠ "runtime.NumGoroutine" := by simpa using a
 simp [callFunc,b,e,d]
theorem q5b {b:V} {l:List V} {g:FuncId} {args:List V} (h:qe9 b l=some (.call (.func g) args)):∃ first a,b=.func (.func g) first a/\args=first++l++a:=by
 unfold qe9 at h;split at h
 .simp only [zS,Out.call.injEq,Tgt.func.injEq] at h;obtain ⟨rfl,rfl⟩:=h;exact ⟨_,_,rfl,rfl⟩
 .simp at h
 .cases h
theorem q0f {q r:Heap} {g:qe} {w3:World} (st:Step H G w q g w3) {l b s m:Nat} (t:g l 0=some (b,s,m)) {fr':Fr} {h:Act} (o:SimFr g w3 fr' h) {ex:Ex} (i:qfy q l=some (ex,r))
  {Q:Exit->Act->World->Prop} (p:∀ e h w',qse H G w (ex,fr',r) e h w'->Q e h w') :
  ∃ a w4,(Instr.endLoop b).run P w3=.ok a w4/\(match a with
    | none=>Q .normal h w4
    | some c=>c.wpIn F n P Q h w4):=by
 obtain ⟨a,w4,j,k,f⟩:=q1r (P:=P) st.sim t i;refine ⟨a,w4,j,?_⟩;have stA:=st.trans k;have d:=o.ext k.ext;cases a with
 | none=>
  simp only [qfi,zS] at f;subst f;exact p _ _ _ ⟨g,stA,d,rfl⟩
 | some c=>
  cases c with
  | ret=>
   simp only [qfi,zS] at f;subst f;exact wpIn_ret (p _ _ _ ⟨g,stA,d,rfl⟩)
  | exit id=>
   simp only [qfi,zS] at f;subst f;exact wpIn_exit (p _ _ _ ⟨g,stA,d,rfl⟩)
  | _=>simp [qfi] at f
theorem qw2 (hc:qg5 P call) {T:FuncId} {fuel:Nat} {f:Operand} {params:Array Tmp} {assign body:Code} (E:codeOk (.rangeFunc f params assign body)=true) {round:Option Nat} {x:Ex×Fr×Heap} {Q:Exit->Act->World->Prop}
  (U:qgq F) (V:qkm G round F.round) (hs:Sim H G w) (e:SimFr G w fr a) (h:zk (zj P sp) call T round fuel (.rangeFunc f params assign body) fr H=some x) (hQ:∀ e W w',qse H G w x e W w'->Q e W w') :
  (Code.rangeFunc f params assign body).wpIn F n P Q a w:=by
 simp only [zk,zI] at h;obtain ⟨⟨I,H1,dn⟩,j,h⟩:=h;simp only at h;split at h
 .rename_i g args k;simp only [zI] at k;obtain ⟨fv,X,J⟩:=k;obtain ⟨first,b,rfl,rfl⟩:=q5b J;rw [cond_eq_ite] at h;split at h
  .rename_i A;obtain ⟨gn,gc,Y,Z,a1⟩:=qrp A;obtain ⟨G1,w1,l,db,aa,dm,st1,B,a6,s⟩:=q8e (P:=P) hs V j;have K:codeOk assign=true/\codeOk body=true:=by
    simp only [codeOk,zA] at E;exact E
   have u:=qz hs e X;simp only [Rel] at u;obtain ⟨ab,p,m,h3,h4,h5,h6⟩:=u;simp only [qlk] at h4;subst h4;refine wpIn_rangeFunc λfn _=>?_;have st2:=st1.sim.zsj (e.ext st1.ext) (ps:=params) K.1 K.2 a6 fn;have o:=s fn a.tmps params assign body;have c:qh0 G1 H1.next 0 (w1.heap.size,0,0) H1.next 0=some (w1.heap.size,0,0):=qc7 _ _ _ _
   generalize qh0 G1 H1.next 0 (w1.heap.size,0,0)=G2 at st2 c
   generalize push w1 (.loop {state:=.ready,pending:=none,fn,tmps:=a.tmps,params,assign,body,defers:=db})=w2 at st2 o;generalize H1.new (.loop .ready none fr.tmps fr.n params.toList assign body dn)=H2 at st2 h;generalize w1.heap.size=D at o c;have d:=st1.trans st2;obtain ⟨y,hy⟩:∃ y:Value,y=.func (.yield D) #[] #[]:=⟨_,rfl⟩;have t:Rel G2 w2 (.func (.yield H1.next) [] []) y:=by
    rw [hy];simp only [Rel,qlk];exact ⟨_,_,_,rfl,⟨_,_,_,c,rfl⟩,qi.nil,qi.nil⟩
   have C:qi G2 w2 (first++[.func (.yield H1.next) [] []]++b) ((p++#[y]).toList++m.toList):=by
    rw [Array.toList_append];exact ((h5.ext d.ext).append (qi.cons t qi.nil)).append (h6.ext d.ext)
   have i:(invoke (.fn (.func g) m) (p++#[y])).run P w2=.ok (.enter g (p++#[y]++m)) w2:=by
    have R:(invoke (.fn (.func g) m) (p++#[y])).run P w2=(callFunc g (p++#[y]++m)).run P w2:=rfl;rw [R,qbt Y Z a1]
   have L:(resolve a.eval (rangeCall f D) 0).run P w2=.ok (⟨.fn (.func g) m,p++#[y]⟩:Deferred) w2:=by
    have hm:(rangeCall f D).args.map a.eval = #[y]:=by simp [hy,Act.eval]
    have R:resolve a.eval (rangeCall f D) 0=Deferred.ofValue (a.eval f) ((rangeCall f D).args.map a.eval):=rfl;rw [hm] at R;rw [R,h3];simp [Deferred.ofValue]
   refine ⟨D,l,w2,⟨.fn (.func g) m,p++#[y]⟩,w2,g,p++#[y]++m,w2,o,L,λf' _=>U.1 f',i,by rw [U.2.1];simp,?_⟩;have M:∀ q z w3,Step H2 G2 w2 q z w3->SimFr z w3 {fr with defers:=I++fr.defers} {a with defers:=l++a.defers}:=by
    intro q z w3 st3;have ef:=(e.ext d.ext).ext st3.ext;exact ⟨ef.tmps,ef.n,((B.ext st2.ext).ext st3.ext).append ef.dfr⟩
   have fin:∀ r q,call (.func g) (first++[.func (.yield H1.next) [] []]++b) H2=some (r,q)->CallsIn F (n-1) P g (p++#[y]++m) w2 λe w'=>∃ G',Step H2 G2 w2 q G' w'/\qkl G' w' r e:=by
    intro r q N;rcases hc _ _ _ _ _ N _ _ (.fn (.func g) m) (p++#[y]) st2.sim ⟨m,rfl,C⟩ with ⟨y',w',G',v',r1,_⟩ | ⟨f',S,r1,r2⟩ | ⟨l',f',t',W,b',r1,_⟩
    .rw [i] at r1;cases r1
    .rw [i] at r1;cases r1;exact r2 F (n-1) U
    .rw [i] at r1;cases r1
   split at h
   .rename_i v q N;simp only [zM] at h;obtain ⟨⟨ex,H4⟩,O,rfl⟩:=h;refine (fin _ _ N).mono λen w3 j=>?_;obtain ⟨z,st3,se⟩:=j;obtain ⟨y',rfl,_⟩:=se;exact q0f (d.trans st3) (st3.ext.sub _ _ _ c) (M q z w3 st3) O hQ
   .rename_i ch q N;cases h;refine (fin _ _ N).mono λen w3 j=>?_;obtain ⟨z,st3,se⟩:=j;obtain ⟨a7,rfl,a8⟩:=se;exact hQ _ _ _ ⟨z,d.trans st3,M q z w3 st3,a7,rfl,a8⟩
   .cases h
  .cases h
 .cases h
theorem jw (A:qg5 P call) (C:zbb P sp call) (fn:FuncId) (fuel:Nat):∀ (c:Code) (_:codeOk c=true) (round:Option Nat) (H:Heap) (G:qe) (w:World) (fr:Fr) (a:Act) (x:Ex×Fr×Heap) (F:Fence) (n:Nat) (Q:Exit->Act->World->Prop),
  qgq F->qkm G round F.round->Sim H G w->SimFr G w fr a->zk (zj P sp) call fn round fuel c fr H=some x->(∀ e a' w',qse H G w x e a' w'->Q e a' w')->c.wpIn F n P Q a w
 | .skip,b,round,H,G,w,fr,a,x,F,n,Q,o,g,j,e,h,k=>by
  simp only [zk,zS] at h;subst h;exact wpIn_skip (k _ _ _ ⟨G,Step.refl j,e,rfl⟩)
 | .label l,b,round,H,G,w,fr,a,x,F,n,Q,o,g,j,e,h,k=>by
  simp only [zk,zS] at h;subst h;exact wpIn_label (k _ _ _ ⟨G,Step.refl j,e,rfl⟩)
 | .exit id,b,round,H,G,w,fr,a,x,F,n,Q,o,g,j,e,h,k=>by
  simp only [zk,zS] at h;subst h;exact wpIn_exit (k _ _ _ ⟨G,Step.refl j,e,rfl⟩)
 | .goto l,b,round,H,G,w,fr,a,x,F,n,Q,o,g,j,e,h,k=>by
  simp only [zk,zS] at h;subst h;exact wpIn_goto (k _ _ _ ⟨G,Step.refl j,e,rfl⟩)
 | .ret,b,round,H,G,w,fr,a,x,F,n,Q,o,g,j,e,h,k=>by
  simp only [zk,zS] at h;subst h;exact wpIn_ret (k _ _ _ ⟨G,Step.refl j,e,rfl⟩)
 | .seq c d,b,round,H,G,w,fr,a,x,F,n,Q,o,g,j,e,h,k=>by
  simp only [zk] at h;split at h
  .rename_i fr' H' K;refine wpIn_seq (jw A C fn fuel c (Bool.and_eq_true_iff.1 b).1 round H G w fr a _ F n _ o g j e K (λE t w1 p=>?_));obtain ⟨I,B,J,q⟩:=p;cases q;exact jw A C fn fuel d (Bool.and_eq_true_iff.1 b).2 round H' I w1 fr' t x F n Q o (g.sub B.ext.sub) B.sim J h (λW T w2 p=>k _ _ _ (p.trans B))
  .rename_i y u;refine wpIn_seq (jw A C fn fuel c (Bool.and_eq_true_iff.1 b).1 round H G w fr a _ F n _ o g j e h (λE t w1 p=>?_));obtain ⟨ex,fr',H'⟩:=x;cases ex with
   | normal=>exact (u _ _ h).elim
   | _=>
    have D:=k E t w1 p;obtain ⟨I,B,J,q⟩:=p
    first
     | (cases q;exact D)
     | (obtain ⟨L,rfl,_⟩:=q;exact D)
 | .cond c x y,b,round,H,G,w,fr,a,z,F,n,Q,o,g,j,e,h,k=>by
  simp only [zk] at h;split at h
  .rename_i X;have O:=qz j e X;simp only [Rel] at O;exact wpIn_cond O (jw A C fn fuel x (Bool.and_eq_true_iff.1 b).1 round H G w fr a z F n Q o g j e h k)
  .rename_i X;have O:=qz j e X;simp only [Rel] at O;exact wpIn_cond O (jw A C fn fuel y (Bool.and_eq_true_iff.1 b).2 round H G w fr a z F n Q o g j e h k)
  .cases h
 | .block id c,b,round,H,G,w,fr,a,x,F,n,Q,o,g,j,e,h,k=>by
  simp only [zk] at h;split at h
  .rename_i Y fr' H' K;refine wpIn_block (jw A C fn fuel c b round H G w fr a _ F n _ o g j e K (λE t w1 p=>?_));obtain ⟨I,B,J,q⟩:=p;cases q;simp only [Exit.inBlock];rw [cond_eq_ite] at h;simp only [Nat.beq_eq] at h;split at h
   .rename_i M;cases h;rw [zT M];exact k _ _ _ ⟨I,B,J,rfl⟩
   .rename_i M;cases h;rw [zF M];exact k _ _ _ ⟨I,B,J,rfl⟩
  .rename_i y u;refine wpIn_block (jw A C fn fuel c b round H G w fr a _ F n _ o g j e h (λE t w1 p=>?_));obtain ⟨ex,fr',H'⟩:=x;have D:=k E t w1 p;obtain ⟨I,B,J,q⟩:=p;cases ex with
   | exit Y=>exact (u _ _ _ h).elim
   | panic ch=>obtain ⟨L,rfl,_⟩:=q;exact D
   | _=>cases q;exact D
 | .scope c,b,round,H,G,w,fr,a,x,F,n,Q,o,g,j,e,h,k=>by
  simp only [zk] at h;split at h
  .cases h
  .rename_i y u;refine zdq (jw A C fn fuel c b round H G w fr a _ F n _ o g j e h (λE t w1 p=>?_));obtain ⟨ex,fr',H'⟩:=x;have D:=k E t w1 p;obtain ⟨I,B,J,q⟩:=p;cases ex with
   | goto l=>exact (u _ _ _ h).elim
   | panic ch=>obtain ⟨L,rfl,_⟩:=q;exact D
   | _=>cases q;exact D
 | .loop c,b,round,H,G,w,fr,a,x,F,n,Q,o,g,j,e,h,k=>by
  simp only [zk] at h;refine wpIn_loop_rounds fuel ?_;have Z:∀ (m:Nat) (H1:Heap) (N:qe) (w1:World) (v:Fr) (t:Act) (s0:Ex),Step H G w H1 N w1->SimFr N w1 v t->
    iter (λ(s:Ex×Fr×Heap)=>match zk (zj P sp) call fn round fuel c s.2.1 s.2.2 with
     | some (.normal,fr',H')=>some (true,.normal,fr',H')
     | some r=>some (false,r)
     | none=>none) m (s0,v,H1)=some x->Code.roundsIn F n P c Q m t w1:=by
   intro m
   induction m with
   | zero=>intro H1 N w1 v t s0 _ _ hi;simp [iter] at hi
   | succ m ih=>
    intro H1 N w1 v t s0 st E hi;simp only [iter] at hi;rw [roundsIn_succ];split at hi
    .rename_i s' i;split at i
     .rename_i fr' H' K;cases i;refine jw A C fn fuel c b round H1 N w1 v t _ F n _ o (g.sub st.ext.sub) st.sim E K (λW T w2 p=>?_);obtain ⟨I,B,J,q⟩:=p;cases q;exact ih H' I w2 fr' T _ (st.trans B) J hi
     .cases i
     .cases i
    .rename_i s' i;cases hi;split at i
     .cases i
     .rename_i r u K;cases i;refine jw A C fn fuel c b round H1 N w1 v t _ F n _ o (g.sub st.ext.sub) st.sim E K (λW T w2 p=>?_);have D:=k W T w2 (p.trans st);obtain ⟨ex,fr',H'⟩:=x;obtain ⟨I,B,J,q⟩:=p;cases ex with
      | normal=>exact (u _ _ rfl).elim
      | panic ch=>obtain ⟨L,rfl,_⟩:=q;exact D
      | _=>cases q;exact D
     .cases i
    .cases hi
  exact Z fuel H G w fr a .normal (Step.refl j) e h
 | .region id R S,b,round,H,G,w,fr,a,x,F,n,Q,o,g,j,e,h,k=>by
  simp only [zk,cond_eq_ite] at h;cases S with
  | false=>
   simp only [Bool.false_eq_true,if_false] at h;refine wpIn_region_list (qtq A o (λhr=>?_) R.toList H G w fr a x Q j e h k);cases round with
   | none=>exact g
   | some l=>cases hr
  | true=>
   simp only [if_true,zM] at h;obtain ⟨⟨fr',H'⟩,K,rfl⟩:=h;exact C R fr H fr' H' K (by simpa [codeOk] using b) G w a F n id Q o j e k
 | .rangeFunc f U V body,b,round,H,G,w,fr,a,x,F,n,Q,o,g,j,e,h,k=>qw2 A b o g j e h k
 | .refuse s,b,round,H,G,w,fr,a,x,F,n,Q,o,g,j,e,h,k=>by
  simp [zk] at h
end
end Go.E2
/- E2: OPERATIONS IN ANY ORDER. First the plain law of lists: who is apart from whom may be taken out; then the operations of a region that draws its order as such a list. -/
namespace Go.E2
open Go
theorem put_eq (fr:Fr) (dst:Option Tmp) (v:V):fr.put dst v=match dst with
  | some d=>bif Nat.blt d fr.n then {fr with tmps:=fr.tmps.set d v} else fr
  | none=>fr:=by
 obtain ⟨t,n,a⟩:=fr;cases dst<;>rfl
theorem zf3 (fr:Fr) (dst:Option Tmp) (v:V):(fr.put dst v).n=fr.n:=by
 rw [put_eq];cases dst with
 | none=>rfl
 | some d=>simp only [cond_eq_ite];split<;>rfl
theorem put_defers (fr:Fr) (dst:Option Tmp) (v:V):(fr.put dst v).defers=fr.defers:=by
 rw [put_eq];cases dst with
 | none=>rfl
 | some d=>simp only [cond_eq_ite];split<;>rfl
structure RW (L X:Type) where
 rd:L->Option (X->Prop)
 wr:L->Option X
section
variable {L X:Type}
def RW.app (o:RW L X) (s:L->X):L->X:=λl=>(o.wr l).getD (s l)
def q0h:List (RW L X)->(L->X)->L->X
 | [],s=>s
 | o::R,s=>q0h R (o.app s)
def RW.qqx (o:RW L X) (s:L->X):Prop:=∀ l p,o.rd l=some p->p (s l)
def qt0:List (RW L X)->(L->X)->Prop
 | [],_=>True
 | o::R,s=>o.qqx s/\qt0 R (o.app s)
def RW.dis (p q:RW L X):Prop:=∀ l,(p.wr l≠none->q.rd l=none/\q.wr l=none)/\(q.wr l≠none->p.rd l=none/\p.wr l=none)
theorem RW.qsk {o:RW L X} {s:L->X} {l:L} (h:o.wr l=none):o.app s l=s l:=by simp [RW.app,h]
theorem RW.dis.comm {p q:RW L X} (h:p.dis q) (s:L->X):p.app (q.app s)=q.app (p.app s):=by
 funext l;cases a:p.wr l with
 | none=>rw [RW.qsk a];simp only [RW.app,a,Option.getD_none]
 | some x=>
  have b:=((h l).1 (by rw [a];simp)).2;rw [RW.qsk (o:=q) b];simp only [RW.app,a,b,Option.getD_some]
theorem RW.dis.qqx {p q:RW L X} (h:p.dis q) {s:L->X}:p.qqx (q.app s)↔p.qqx s:=by
 constructor
 .intro c l d a;have b:q.wr l=none:=by
   cases b:q.wr l with
   | none=>rfl
   | some x=>have:=((h l).2 (by rw [b];simp)).1;rw [this] at a;cases a
  have:=c l d a
  rwa [RW.qsk b] at this
 .intro c l d a;have b:q.wr l=none:=by
   cases b:q.wr l with
   | none=>rfl
   | some x=>have:=((h l).2 (by rw [b];simp)).1;rw [this] at a;cases a
  rw [RW.qsk b];exact c l d a
theorem RW.dis.symm {p q:RW L X} (h:p.dis q):q.dis p:=λl=>⟨(h l).2,(h l).1⟩
theorem zpa:∀ (A:List (RW L X)) (i:RW L X) (B:List (RW L X)) (s:L->X),(∀ a ∈ A,a.dis i)->qt0 (A++i::B) s->
  i.qqx s/\qt0 (A++B) (i.app s)/\q0h (A++B) (i.app s)=q0h (A++i::B) s
 | [],i,B,s,_,h=>⟨h.1,h.2,rfl⟩
 | a::A,i,B,s,c,h=>by
  obtain ⟨d,e⟩:=h;obtain ⟨f,g,j⟩:=zpa A i B (a.app s) (λx k=>c x (zG _ k)) e;have b:=c a zC;refine ⟨(b.symm.qqx).1 f,⟨(b.qqx).2 d,?_⟩,?_⟩
  .rw [b.comm];exact g
  .simp only [List.cons_append,q0h];rw [b.comm];exact j
end
abbrev Loc:=Nat ⊕ Nat
abbrev Val:=Option V×Option O×Nat
structure It where
 i:Nat
 o:Oper
 f:Fr
 K:Heap
 v:V
 K':Heap
 fp:FP
 dels:List Nat
def okN (next:Nat) (dels:List Nat) (n:Nat):Bool:=Nat.blt n next&&!dels.any λm=>Nat.beq n m
def It.dom (t:It) (nm:Nat):Bool:=
 match t.fp with
 | .none=>false
 | .reads l | .writes l=>(l.any λm=>Nat.beq nm m)&&okN t.K.next t.dels nm
 | .call | .lone=>okN t.K.next t.dels nm
def It.j9 (t:It):Bool:=
 match t.fp with
 | .writes _ | .lone=>true
 | _=>false
def It.rw (all:Array Oper) (t:It):RW Loc Val where
 rd:=λ
  | .inl x=>if x ∈ t.o.looksAt all then some λy=>t.f.tmps.get x=y.1/\y.2.2<=t.K.next else none
  | .inr nm=>if t.dom nm=true then some λy=>t.K.get nm=y.2.1/\y.2.2<=t.K.next else none
 wr:=λ
  | .inl x=>if t.o.dst=some x/\x<t.f.n then some (some t.v,none,t.K'.next) else none
  | .inr nm=>if (t.K.next<=nm/\nm<t.K'.next)∨(t.j9=true/\t.dom nm=true) then some (none,t.K'.get nm,t.K'.next) else none
structure ItOk (E:Env) (call:Call) (all:Array Oper) (fr:Fr) (H:Heap) (t:It):Prop where
 run:qft E call all t.o t.f t.K=some (.ret t.v,t.K')
 op:all[t.i]? = some t.o
 le:t.K.next<=t.K'.next
 start:H.next<=t.K.next
 ro:H.ro<=t.K.ro
 roN:t.K.ro<=t.K.next
 roM:t.j9=false->t.K.ro=t.K.next
 zf:t.K.zf=H.zf
 dom:∀ nm,nm<t.K.next->t.K.get nm≠none->t.dom nm=true
 looks:∀ x,t.f.tmps.get x≠none->x ∈ t.o.looksAt all
 n:t.f.n=fr.n
 dfr:t.f.defers=fr.defers
 dels:∀ nm ∈ t.dels,nm<t.K.next
def Rep (s:Loc->Val) (fr:Fr) (H:Heap):Prop:=
 (∀ x,(s (.inl x)).1=fr.tmps.get x/\(s (.inl x)).2.2<=H.next)/\∀ nm,nm<H.next->(s (.inr nm)).2.1=H.get nm/\(s (.inr nm)).2.2<=H.next
def zy9 (b:Array Nat) (p q:It):Prop:=(b.getD q.i 0).testBit p.i=true
theorem q6d {next:Nat} {dels:List Nat} {n:Nat} (h:okN next dels n=true):n<next:=by
 simp only [okN,zA,Nat.blt_eq] at h;exact h.1
theorem qnt {next:Nat} {dels:List Nat} {n:Nat} (h:okN next dels n=true):n ∉ dels:=by
 simp only [okN,zA,Bool.not_eq_true',List.any_eq_false,Nat.beq_eq] at h;intro a;exact h.2 n a rfl
theorem qr0 {next:Nat} {dels:List Nat} {n:Nat} (h:n<next) (a:n ∉ dels):okN next dels n=true:=by
 simp only [okN,zA,Bool.not_eq_true',List.any_eq_false,Nat.beq_eq,Nat.blt_eq];refine ⟨h,λm b c=>a (c ▸ b)⟩
theorem It.qrl {t:It} {nm:Nat} (h:t.dom nm=true):nm<t.K.next/\nm ∉ t.dels:=by
 unfold It.dom at h;split at h
 .cases h
 .have:=(Bool.and_eq_true_iff.1 h).2;exact ⟨q6d this,qnt this⟩
 .have:=(Bool.and_eq_true_iff.1 h).2;exact ⟨q6d this,qnt this⟩
 .exact ⟨q6d h,qnt h⟩
 .exact ⟨q6d h,qnt h⟩
def zba (d:Done) (t:It):Prop:=d.i=t.i/\d.fp=t.fp/\d.lo=t.K.next/\d.hi=t.K'.next/\d.dels=t.dels
theorem q2s {p q:It} {d:Done} (s:zba d p) (h:qcp d q.dels q.fp=false) {nm:Nat} (b:p.dom nm=true) (c:q.dom nm=true):p.j9=false/\q.j9=false:=by
 obtain ⟨_,t,u,_,v⟩:=s;have f:∀ (w l:List Nat),(w.any λn=>l.any λm=>Nat.beq n m)=false->(w.any λm=>Nat.beq nm m)=true->(l.any λm=>Nat.beq nm m)=true->False:=by
  intro w l g i e;obtain ⟨m,j,a⟩:=List.any_eq_true.1 i;rw [Nat.beq_eq] at a;subst a;rw [List.any_eq_false] at g;exact g nm j e
 have out:∀ (l:List Nat),(l.any λn=>Nat.blt n p.K.next&&!p.dels.any λm=>Nat.beq n m)=false->(l.any λm=>Nat.beq nm m)=true->okN p.K.next p.dels nm=true->False:=by
  intro l k i e;obtain ⟨m,j,a⟩:=List.any_eq_true.1 i;rw [Nat.beq_eq] at a;subst a;rw [List.any_eq_false] at k;exact k nm j e
 have ins:∀ (l:List Nat),(l.any λn=>!q.dels.any λm=>Nat.beq n m)=false->(l.any λm=>Nat.beq nm m)=true->okN q.K.next q.dels nm=true->False:=by
  intro l k i e;obtain ⟨m,j,a⟩:=List.any_eq_true.1 i;rw [Nat.beq_eq] at a;subst a;rw [List.any_eq_false] at k;simp only [okN,zA] at e;exact k nm j e.2
 unfold It.dom at b c;unfold It.j9;unfold qcp at h;rw [t,u,v] at h;cases o:p.fp<;>cases r:q.fp<;>simp only [o,r,zA] at h b c ⊢<;>first
  | exact ⟨rfl,rfl⟩
  | (cases h;done)
  | (cases b;done)
  | (cases c;done)
  | exact (f _ _ h b.1 c.1).elim
  | exact (f _ _ h c.1 b.1).elim
  | exact (out _ h c.1 b).elim
  | exact (ins _ h b.1 c).elim
  | trivial
theorem zvo {all:Array Oper} {p q:It} {d:Done} (hd:zba d p) (hap:p.o.apart all q.o=true) (hcl:qcp d q.dels q.fp=false) (hle:p.K'.next<=q.K.next) (hpl:p.K.next<=p.K'.next)
  (hdel:∀ nm,p.K.next<=nm->nm<p.K'.next->nm ∈ q.dels):(p.rw all).dis (q.rw all):=by
 obtain ⟨a1,a2,a3⟩:=Oper.apart_spec hap;intro l;cases l with
 | inl x=>
  simp only [It.rw];refine ⟨λh=>?_,λh=>?_⟩
  .have hd:p.o.dst=some x:=by
    by_cases hx:p.o.dst=some x/\x<p.f.n
    .exact hx.1
    .rw [zF hx] at h;exact (h rfl).elim
   rw [zF (a1 x hd),zF (λhx=>a2 x hd hx.1)];exact ⟨rfl,rfl⟩
  .have hd:q.o.dst=some x:=by
    by_cases hx:q.o.dst=some x/\x<q.f.n
    .exact hx.1
    .rw [zF hx] at h;exact (h rfl).elim
   rw [zF (a3 x hd),zF (λhx=>a2 x hx.1 hd)];exact ⟨rfl,rfl⟩
 | inr nm=>
  simp only [It.rw];refine ⟨λh=>?_,λh=>?_⟩
  .have hw:(p.K.next<=nm/\nm<p.K'.next)∨(p.j9=true/\p.dom nm=true):=by
    by_cases hx:(p.K.next<=nm/\nm<p.K'.next)∨(p.j9=true/\p.dom nm=true)
    .exact hx
    .rw [zF hx] at h;exact (h rfl).elim
   have hnd:¬ q.dom nm=true:=by
    intro hq;rcases hw with hw | hw
    .exact (It.qrl hq).2 (hdel nm hw.1 hw.2)
    .have:=(q2s hd hcl hw.2 hq).1;rw [hw.1] at this;cases this
   have hlt:nm<q.K.next:=by
    rcases hw with hw | hw
    .omega
    .have:=(It.qrl hw.2).1;omega
   rw [if_neg hnd, if_neg (by intro hx; rcases hx with hx | hx; · omega
                              .exact hnd hx.2)]
   exact ⟨rfl,rfl⟩
  .have hw:(q.K.next<=nm/\nm<q.K'.next)∨(q.j9=true/\q.dom nm=true):=by
    by_cases hx:(q.K.next<=nm/\nm<q.K'.next)∨(q.j9=true/\q.dom nm=true)
    .exact hx
    .rw [zF hx] at h;exact (h rfl).elim
   have hnd:¬ p.dom nm=true:=by
    intro hp;rcases hw with hw | hw
    .have:=(It.qrl hp).1;omega
    .have:=(q2s hd hcl hp hw.2).2;rw [hw.1] at this;cases this
   have hnn:¬ (p.K.next<=nm/\nm<p.K'.next):=by
    intro hp;rcases hw with hw | hw
    .omega
    .exact (It.qrl hw.2).2 (hdel nm hp.1 hp.2)
   rw [if_neg hnd, if_neg (by intro hx; rcases hx with hx | hx; · exact hnn hx
                              .exact hnd hx.2)]
   exact ⟨rfl,rfl⟩
def Rl (b:Array Nat) (all:Array Oper) (p q:It):Prop:=p.i<q.i/\p.K'.next<=q.K.next/\(zy9 b p q∨(p.rw all).dis (q.rw all))
theorem qa1 (H:Heap) (fp:FP) (dels:List Nat):(zo H fp dels).next=H.next:=by unfold zo;split<;>rfl
theorem zdo (H:Heap) (fp:FP) (dels:List Nat):(zo H fp dels).zf=H.zf:=by unfold zo;split<;>rfl
theorem qqg {l:List Nat} {n:Nat}:(l.any λm=>Nat.beq n m)=true↔n ∈ l:=by
 rw [List.any_eq_true];constructor
 .rintro ⟨m,b,a⟩;rw [Nat.beq_eq] at a;exact a ▸ b
 .intro h;exact ⟨n,h,by simp⟩
theorem q4k (H:Heap) (fp:FP) (dels:List Nat) (i:Nat) (o:Oper) (f:Fr) (v:V) (b:Heap) (nm:Nat) (a:nm<H.next) :
  (zo H fp dels).get nm=if (It.mk i o f (zo H fp dels) v b fp dels).dom nm=true then H.get nm else none:=by
 unfold It.dom;simp only [qa1];cases fp with
 | none=>simp [zo,Heap.get,Tree.get]
 | reads l=>
  simp only [zo,Heap.get,js,Tree.get];by_cases h:nm ∈ l/\okN H.next dels nm=true
  .rw [zT (by rw [List.mem_filter];exact h),zT (by rw [zA];exact ⟨qqg.2 h.1,h.2⟩)]
  .rw [zF (by rw [List.mem_filter];exact h),zF (by rw [zA];exact λq=>h ⟨qqg.1 q.1,q.2⟩)]
 | writes l=>
  simp only [zo,Heap.get,js,Tree.get];by_cases h:nm ∈ l/\okN H.next dels nm=true
  .rw [zT (by rw [List.mem_filter];exact h),zT (by rw [zA];exact ⟨qqg.2 h.1,h.2⟩)]
  .rw [zF (by rw [List.mem_filter];exact h),zF (by rw [zA];exact λq=>h ⟨qqg.1 q.1,q.2⟩)]
 | call=>
  simp only [zo,Heap.get,js,Tree.get];by_cases h:nm ∈ dels
  .rw [zT h,zF (λq=>qnt q h)]
  .rw [zF h,zT (qr0 a h)]
 | lone=>
  simp only [zo,Heap.get,js,Tree.get];by_cases h:nm ∈ dels
  .rw [zT h,zF (λq=>qnt q h)]
  .rw [zF h,zT (qr0 a h)]
theorem mem_range {a b n:Nat}:n ∈ List.range' a (b-a)↔a<=n/\n<b:=by
 rw [List.mem_range'_1];omega
theorem zh2 (H K':Heap) (fp:FP) (dels:List Nat) (i:Nat) (o:Oper) (f:Fr) (v:V) (nm:Nat) (hn:nm<K'.next) (hd:∀ nm ∈ dels,nm<H.next) :
  (qb4 H K' fp dels).get nm=if (H.next<=nm/\nm<K'.next)∨((It.mk i o f (zo H fp dels) v K' fp dels).j9=true/\(It.mk i o f (zo H fp dels) v K' fp dels).dom nm=true) then K'.get nm else H.get nm:=by
 unfold It.dom It.j9;simp only [qa1];have base:∀ (q:Prop) [Decidable q],(q↔nm ∈ List.range' H.next (K'.next-H.next))->(ke K'.qbq (List.range' H.next (K'.next-H.next)) H.qbq).get nm=if q then K'.get nm else H.get nm:=by
  intro q _ hq;rw [js];by_cases h:q
  .rw [zT h,zT (hq.1 h)];rfl
  .rw [zF h,zF (λx=>h (hq.2 x))];rfl
 cases fp with
 | none=>exact base _ (by rw [mem_range];simp)
 | reads l=>exact base _ (by rw [mem_range];simp)
 | call=>exact base _ (by rw [mem_range];simp)
 | writes l=>
  simp only [qb4,Heap.get,js,List.mem_append,mem_range,true_and];have:(nm ∈ l.filter (λn=>Nat.blt n H.next&&!dels.any λm=>Nat.beq n m))↔((l.any λm=>Nat.beq nm m)&&okN H.next dels nm)=true:=by
   rw [List.mem_filter];exact ⟨λq=>Bool.and_eq_true_iff.2 ⟨qqg.2 q.1,q.2⟩,λq=>⟨qqg.1 (Bool.and_eq_true_iff.1 q).1,(Bool.and_eq_true_iff.1 q).2⟩⟩
  by_cases h1:H.next<=nm/\nm<K'.next
  .rw [zT (.inr h1),zT (.inl h1)]
  .by_cases h2:((l.any λm=>Nat.beq nm m)&&okN H.next dels nm)=true
   .rw [zT (.inl (this.2 h2)),zT (.inr h2)]
   ·rw [if_neg (by rintro (q | q); · exact h2 (this.1 q)
                   ·exact h1 q), if_neg (by rintro (q | q); · exact h1 q
                                            .exact h2 q)]
 | lone=>
  simp only [qb4,Heap.get,js,true_and];by_cases h:nm ∈ dels
  .have:=hd nm h
   rw [if_pos h, if_neg (by rintro (q | q); · omega
                            .exact qnt q h)]
  .rw [zF h];by_cases h1:H.next<=nm
   .rw [zT (.inl ⟨h1,hn⟩)]
   .rw [zT (.inr (qr0 (by omega) h))]
theorem qq5 {E:Env} {call:Call} {all:Array Oper} {b:Array Nat} {y:Fr} {H0:Heap}
  (V:∀ k j p o,all[k]? = some p->all[j]? = some o->k<j->(b.getD j 0).testBit k=false->p.apart all o=true) :
  ∀ (rest:List Oper) (i:Nat) (done:List Done) (c:List It) (fr:Fr) (H:Heap) (fr':Fr) (H':Heap) (s:Loc->Val),
   qc6 E call all b i rest done fr H=some (fr',H')->(∀ k,rest[k]? = all[i+k]?)->
   (∀ p ∈ c,∃ d ∈ done,zba d p)->(∀ d ∈ done,d.hi<=H.next)->(∀ p ∈ c,p.i<i/\p.K'.next<=H.next/\p.K.next<=p.K'.next/\all[p.i]? = some p.o)->
   fr.n=y.n->fr.defers=y.defers->H0.next<=H.next->H.ro=H0.ro->H.zf=H0.zf->H.ro<=H.next->Rep s fr H->
   ∃ m:List It,m.map (·.i)=List.range' i rest.length/\(∀ t ∈ m,ItOk E call all y H0 t/\t.K'.next<=H'.next)/\qt0 (m.map (It.rw all)) s/\Rep (q0h (m.map (It.rw all)) s) fr' H'/\
    (∀ p ∈ c,∀ q ∈ m,Rl b all p q)/\m.Pairwise (Rl b all)/\fr'.n=y.n/\fr'.defers=y.defers/\H'.ro=H0.ro/\H'.zf=H0.zf/\H.next<=H'.next
 | [],i,done,c,fr,H,fr',H',s,h,B,hp,O,P,hn,w,Q,R,J,W,g=>by
  simp only [qc6,zS,zP] at h;obtain ⟨rfl,rfl⟩:=h;exact ⟨[],rfl,by simp,trivial,g,by simp,.nil,hn,w,R,J,zN _⟩
 | o::rest,i,done,c,fr,H,fr',H',s,h,B,hp,O,P,hn,w,Q,R,J,W,g=>by
  simp only [qc6,zI] at h;obtain ⟨a7,hw,h⟩:=h;generalize ae:(bif a7 then (match qha E o fr with
   | .call=>bif quv E all b i then FP.lone else .call
   | x=>x) else .none)=fp at h
  generalize C:(done.filter λd=>!(b.getD i 0).testBit d.i)=free at h;generalize D:free.flatMap Done.names=dels at h;rw [cond_eq_ite] at h;split at h
  .cases h
  .rename_i a8;split at h
   .rename_i v K' X;rw [cond_eq_ite] at h;split at h
    .cases h
    .rename_i e;have e:H.next<=K'.next:=by
      rw [Nat.blt_eq] at e;omega
     have Y:∀ nm ∈ dels,nm<H.next:=by
      intro nm F;rw [<-D,List.mem_flatMap] at F;obtain ⟨d,A,F⟩:=F;rw [<-C,List.mem_filter] at A;have:=O d A.1;unfold Done.names at F;rw [mem_range] at F;omega
     obtain ⟨t,I⟩:∃ t:It,t=⟨i,o,{fr with tmps:=ke fr.tmps (o.looksAt all) .nil},zo H fp dels,v,K',fp,dels⟩:=⟨_,rfl⟩;have S:all[i]? = some o:=by have:=B 0;simpa using this.symm
     have aa:ItOk E call all y H0 t:=by
      subst I;refine ⟨X,S,by rw [qa1];exact e,by rw [qa1];exact Q,?_,?_,?_,by rw [zdo];exact J,λnm f z=>?_,λx r=>?_,hn,w,by rw [qa1];exact Y⟩
      .unfold zo;split<;>simp<;>omega
      .unfold zo;split<;>simp<;>omega
      .unfold It.j9 zo;cases fp<;>simp
      .rw [qa1] at f;rw [q4k H fp dels i o {fr with tmps:=ke fr.tmps (o.looksAt all) .nil} v K' nm f] at z;by_cases F:(It.mk i o {fr with tmps:=ke fr.tmps (o.looksAt all) .nil} (zo H fp dels) v K' fp dels).dom nm=true
       .exact F
       .rw [zF F] at z;exact (z rfl).elim
      .rw [js] at r;by_cases F:x ∈ o.looksAt all
       .exact F
       .rw [zF F] at r;simp [Tree.get] at r
     have ab:Rep ((t.rw all).app s) (fr.put o.dst v) (qb4 H K' fp dels):=by
      refine ⟨λx=>?_,λnm z=>?_⟩
      .have G:=g.1 x;simp only [RW.app,It.rw];subst I;simp only;by_cases r:o.dst=some x/\x<fr.n
       .rw [zT r];simp only [put_eq,r.1,cond_eq_ite,Nat.blt_eq,r.2,if_true,Option.getD_some,Tree.kv];exact ⟨trivial,zN _⟩
       .rw [zF r,Option.getD_none];refine ⟨G.1.trans ?_,zR G.2 e⟩;rw [put_eq];split
        .rename_i d A;rw [cond_eq_ite];split
         .rename_i f;rw [Nat.blt_eq] at f;simp only [Tree.kv];rw [zF (λ(q:x=d)=>r ⟨by rw [A,q],by rw [q];exact f⟩)]
         .rfl
        .rfl
      .have hg:=zh2 H K' fp dels i o {fr with tmps:=ke fr.tmps (o.looksAt all) .nil} v nm z Y;rw [hg];simp only [RW.app,It.rw];subst I;simp only [qa1];split
       .exact ⟨rfl,zN _⟩
       .rename_i r;have f:nm<H.next:=by
         by_cases h1:nm<H.next
         .exact h1
         .exact (r (.inl ⟨by omega,z⟩)).elim
        have G:=g.2 nm f;rw [Option.getD_none];exact ⟨G.1,zR G.2 e⟩
     have T:(t.rw all).qqx s:=by
      intro l p N;cases l with
      | inl x=>
       simp only [It.rw] at N;split at N
       .rename_i r;cases N;have G:=g.1 x;subst I;simp only at r;simp only [js,zT r,qa1];exact ⟨G.1.symm,G.2⟩
       .cases N
      | inr nm=>
       simp only [It.rw] at N;split at N
       .rename_i r;cases N;have f:=(It.qrl r).1;subst I;simp only [qa1] at f;have G:=g.2 nm f;rw [q4k H fp dels i o {fr with tmps:=ke fr.tmps (o.looksAt all) .nil} v K' nm f,zT r];simp only [qa1];exact ⟨G.1.symm,G.2⟩
       .cases N
     have U:∀ p ∈ c,Rl b all p t:=by
      intro p a;obtain ⟨a1,a2,a3,a4⟩:=P p a;obtain ⟨d,A,L⟩:=hp p a;have Z:=L;obtain ⟨d1,d2,d3,d4,_⟩:=Z;subst I;refine ⟨a1,by rw [qa1];exact a2,?_⟩;by_cases u:(b.getD i 0).testBit p.i=true
      .exact .inl u
      .right;have u:(b.getD i 0).testBit p.i=false:=by simpa using u
       have w:d ∈ free:=by
        rw [<-C,List.mem_filter];exact ⟨A,by rw [d1,u];rfl⟩
       refine zvo L (V _ _ _ _ a4 S a1 u) ?_ (by rw [qa1];exact a2) a3 (λnm h1 h2=>?_)
       .have:=List.any_eq_false.1 (by simpa using a8) d w;simpa using this
       .show nm ∈ dels;rw [<-D,List.mem_flatMap];exact ⟨d,w,by unfold Done.names;rw [mem_range,d3,d4];exact ⟨h1,h2⟩⟩
     obtain ⟨m,e1,e2,e3,e4,e5,e6,e7,e8,e9,ad,a6⟩:=qq5 V rest (i+1) (⟨i,fp,H.next,K'.next,dels⟩::done) (t::c) (fr.put o.dst v) (qb4 H K' fp dels) fr' H' ((t.rw all).app s) h
      (λk=>by have:=B (k+1);simpa [Nat.add_assoc,Nat.add_comm 1 k] using this)
      (by
        intro p a;rcases zD.1 a with rfl | a
        .exact ⟨_,zC,by subst I;exact ⟨rfl,rfl,by rw [qa1],rfl,rfl⟩⟩
        .obtain ⟨d,A,L⟩:=hp p a;exact ⟨d,zG _ A,L⟩)
      (by
        intro d A;rcases zD.1 A with rfl | A
        .exact zN _
        .exact zR (O d A) e)
      (by
        intro p a;rcases zD.1 a with rfl | a
        .subst I;exact ⟨Nat.lt_succ_self _,zN _,by rw [qa1];exact e,S⟩
        .obtain ⟨a1,a2,a3,a4⟩:=P p a;exact ⟨Nat.lt_succ_of_lt a1,zR a2 e,a3,a4⟩)
      ((zf3 _ _ _).trans hn) ((put_defers _ _ _).trans w)
      (zR Q e) R J (zR W e) ab
     refine ⟨t::m,?_,?_,⟨T,e3⟩,e4,?_,?_,e7,e8,e9,ad,zR e a6⟩
     .simp only [List.map_cons,e1,List.length_cons,List.range'_succ];subst I;rfl
     .intro q M;rcases zD.1 M with rfl | M
      .refine ⟨aa,?_⟩;subst I;exact a6
      .exact e2 q M
     .intro p a q M;rcases zD.1 M with rfl | M
      .exact U p a
      .exact e5 p (zG _ a) q M
     .exact List.Pairwise.cons (λq M=>e5 t zC q M) e6
   .cases h
end Go.E2
/- E2: A REGION THAT DRAWS ITS ORDER: what holds between two of its operations, and how one operation keeps it. -/
namespace Go.E2
open Go
def qgy (G:qe) (B:Nat):qe:=λnm g=>if nm<B then G nm g else none
theorem jc {G:qe} {B nm g:Nat} {x} (h:qgy G B nm g=some x):nm<B/\G nm g=some x:=by
 unfold qgy at h;by_cases a:nm<B
 .rw [zT a] at h;exact ⟨a,h⟩
 .rw [zF a] at h;cases h
theorem qd7 {G:qe} {B nm g:Nat} {x} (a:nm<B) (h:G nm g=some x):qgy G B nm g=some x:=by
 unfold qgy;rw [zT a];exact h
structure Mid (fr0:Fr) (H0:Heap) (G0:qe) (w0:World) (N:Nat) (R:List It) (s:Loc->Val) (G:qe) (a:Act) (w:World):Prop where
 lt:∀ nm g b sh n,G nm g=some (b,sh,n)->b<w.heap.size
 inj:∀ nm g b sh n nm' g' sh' n',G nm g=some (b,sh,n)->G nm' g'=some (b,sh',n')->nm=nm'/\sh=sh'
 free:∀ t ∈ R,∀ nm g,t.K.next<=nm->nm<t.K'.next->G nm g=none
 top:∀ nm g x,G nm g=some x->nm<N
 tmp:∀ x v,(s (.inl x)).1=some v->Rel (qgy G (s (.inl x)).2.2) w v (a.tmps.getD x undef)
 obj:∀ nm o,(s (.inr nm)).2.1=some o->nm<N->nm<(s (.inr nm)).2.2/\qef (qgy G (s (.inr nm)).2.2) w nm o
 n:a.tmps.size=fr0.n
 dfr:qbr (qgy G H0.next) w fr0.defers a.defers
 globs:∀ g o,g<H0.zf->(s (.inr g)).2.1=some o->∃ n,G g 0=some (g,0,n)
 keep:∀ nm,nm<H0.ro->(s (.inr nm)).2.1=H0.get nm
 ext:Ext H0.ro G0 w0 G w
 newG:∀ nm g x,G nm g=some x->nm<H0.ro->G0 nm g=some x
 frame:∀ nm,nm<H0.next->H0.get nm=none->(s (.inr nm)).2.1=none/\(∀ g b sh n,G0 nm g=some (b,sh,n)->w.heap[b]? = w0.heap[b]?)/\∀ g x,G nm g=some x->G0 nm g=some x
section
variable {E:Env} {call:Call} {all:Array Oper} {fr0:Fr} {H0:Heap} {G0:qe} {w0:World} {N:Nat} {s:Loc->Val} {G:qe} {a:Act} {w:World} {t:It}
theorem q0g {B a:Nat} (h:B<=a):Up (qgy G B) w (qgy G a) w:=
 ⟨λ_ _ _ b=>qd7 (zL (jc b).1 h) (jc b).2,λ_ _ h=>h⟩
theorem Mid.sim {R:List It} (m:Mid fr0 H0 G0 w0 N R s G a w) (l:H0.zf<=H0.ro) (ok:ItOk E call all fr0 H0 t) (H:t.K'.next<=N) (q:(t.rw all).qqx s) :
  Sim t.K (qgy G t.K.next) w/\SimFr (qgy G t.K.next) w t.f a:=by
 have d:∀ nm,nm<t.K.next->t.K.get nm≠none->(s (.inr nm)).2.1=t.K.get nm/\(s (.inr nm)).2.2<=t.K.next:=by
  intro nm c p;have r:=ok.dom nm c p;have:=q (.inr nm) (λy=>t.K.get nm=y.2.1/\y.2.2<=t.K.next) (by simp only [It.rw];rw [zT r]);exact ⟨this.1.symm,this.2⟩
 refine ⟨⟨λnm g b u n e=>⟨m.lt _ _ _ _ _ (jc e).2,(jc e).1⟩,λnm g b u n z I A J h j=>m.inj _ _ _ _ _ _ _ _ _ (jc h).2 (jc j).2,λnm o c i=>?_,ok.roN,?_,λg o e i=>?_⟩,⟨λx v k=>?_,by rw [m.n,ok.n],?_⟩⟩
 .obtain ⟨h,j⟩:=d nm c (by rw [i];simp);obtain ⟨B,C⟩:=m.obj nm o (h.trans i) (by have:=ok.le;omega);exact C.up (q0g j) (λg x k=>qd7 B (jc k).2) (λ_ _ _ _ _=>rfl)
 .rw [ok.zf];exact zR l ok.ro
 .rw [ok.zf] at e;have c:g<t.K.next:=by have:=ok.ro;have:=ok.roN;omega
  obtain ⟨h,j⟩:=d g c (by rw [i];simp);obtain ⟨n,D⟩:=m.globs g o e (h.trans i);exact ⟨n,qd7 c D⟩
 .have F:=ok.looks x (by rw [k];simp);have:=q (.inl x) (λy=>t.f.tmps.get x=y.1/\y.2.2<=t.K.next) (by simp only [It.rw];rw [zT F]);exact Rel.up (q0g this.2) (m.tmp x v (this.1.symm.trans k))
 .rw [ok.dfr];exact qbr.up (q0g ok.start) m.dfr
def qpc (G a:qe) (hi:Nat):qe:=λnm g=>if nm<hi then a nm g else G nm g
theorem qd4 {G a:qe} {hi nm g:Nat} (h:nm<hi):qpc G a hi nm g=a nm g:=by unfold qpc;rw [zT h]
theorem qi1 {G a:qe} {hi nm g:Nat} (h:¬ nm<hi):qpc G a hi nm g=G nm g:=by unfold qpc;rw [zF h]
theorem Mid.step {A B:List It} (m:Mid fr0 H0 G0 w0 N (A++t::B) s G a w) (ok:ItOk E call all fr0 H0 t) (hN:t.K'.next<=N) (hf:(t.rw all).qqx s)
  (hA:∀ k ∈ A,k.K'.next<=t.K.next/\(k.rw all).dis (t.rw all)) (hB:∀ k ∈ B,t.K'.next<=k.K.next) {z:qe} {w1:World} (st:Step t.K (qgy G t.K.next) w t.K' z w1)
  {y:Value} (hy:Rel z w1 t.v y):Mid fr0 H0 G0 w0 N (A++B) ((t.rw all).app s) (qpc G z t.K'.next) (a.put t.o.dst y) w1:=by
 have ah:=ok.le;have U:∀ nm g x,z nm g=some x->nm<t.K'.next:=λnm g x c=>(st.sim.lt nm g x.1 x.2.1 x.2.2 c).2
 have Z:∀ nm g,t.K.next<=nm->nm<t.K'.next->G nm g=none:=m.free t (by simp)
 have I:∀ nm g x,G nm g=some x->qpc G z t.K'.next nm g=some x:=by
  intro nm g x c;by_cases h:nm<t.K'.next
  .rw [qd4 h];by_cases M:nm<t.K.next
   .exact st.ext.sub _ _ _ (qd7 M c)
   .rw [Z nm g (by omega) h] at c;cases c
  .rw [qi1 h];exact c
 have J:∀ nm g b i n,¬ nm<t.K.next->G nm g=some (b,i,n)->w1.heap[b]? = w.heap[b]?/\qjs z b:=by
  intro nm g b i n H j;refine st.ext.frg b (m.lt _ _ _ _ _ j) (λO g' a1 n' M=>?_);have:=jc M;have:=(m.inj _ _ _ _ _ _ _ _ _ j this.2).1;omega
 have C:∀ nm,¬ ((t.K.next<=nm/\nm<t.K'.next)∨(t.j9=true/\t.dom nm=true))->
   (∀ g x,qpc G z t.K'.next nm g=some x->G nm g=some x)/\∀ g b i n,G nm g=some (b,i,n)->w1.heap[b]? = w.heap[b]?:=by
  intro nm p;by_cases D:nm<t.K.next
  .have hr:(∀ g x,z nm g=some x->qgy G t.K.next nm g=some x)/\∀ g b i n,qgy G t.K.next nm g=some (b,i,n)->w1.heap[b]? = w.heap[b]?:=by
    cases a6:t.j9 with
    | false=>
     have V:=ok.roM a6;exact ⟨λg x c=>st.newG nm g x c (by omega),λg b i n j=>st.ext.ro nm g b i n (by omega) j⟩
    | true=>
     have r:t.K.get nm=none:=by
      by_cases P:t.K.get nm=none
      .exact P
      .exact (p (.inr ⟨a6,ok.dom nm D P⟩)).elim
     obtain ⟨_,f2,f3⟩:=st.frame nm D r;exact ⟨f3,f2⟩
   refine ⟨λg x c=>?_,λg b i n j=>hr.2 g b i n (qd7 D j)⟩;rw [qd4 (by omega)] at c;exact (jc (hr.1 g x c)).2
  .have u:¬ nm<t.K'.next:=λu=>p (.inl ⟨by omega,u⟩)
   exact ⟨λg x c=>by rw [qi1 u] at c;exact c,λg b i n j=>(J nm g b i n D j).1⟩
 have L:∀ B,Up (qgy G B) w (qgy (qpc G z t.K'.next) B) w1:=λB=>
  ⟨λnm g x c=>qd7 (jc c).1 (I _ _ _ (jc c).2),st.ext.shp⟩
 have S:Up z w1 (qgy (qpc G z t.K'.next) t.K'.next) w1:=
  ⟨λnm g x c=>qd7 (U _ _ _ c) (by rw [qd4 (U _ _ _ c)];exact c),λ_ _ h=>h⟩
 have W:∀ nm g x,qgy (qpc G z t.K'.next) t.K'.next nm g=some x->z nm g=some x:=by
  intro nm g x c;have:=jc c;rw [qd4 this.1] at this;exact this.2
 have a7:∀ nm,t.dom nm=true->t.K.get nm=(s (.inr nm)).2.1/\(s (.inr nm)).2.2<=t.K.next:=by
  intro nm X;exact hf (.inr nm) (λy=>t.K.get nm=y.2.1/\y.2.2<=t.K.next) (by simp only [It.rw];rw [zT X])
 have Q:∀ nm,(t.K.next<=nm/\nm<t.K'.next)∨(t.j9=true/\t.dom nm=true)->((t.rw all).app s) (.inr nm)=(none,t.K'.get nm,t.K'.next):=by
  intro nm h;simp only [RW.app,It.rw];rw [zT h,Option.getD_some]
 have p:∀ nm,¬ ((t.K.next<=nm/\nm<t.K'.next)∨(t.j9=true/\t.dom nm=true))->((t.rw all).app s) (.inr nm)=s (.inr nm):=by
  intro nm h;simp only [RW.app,It.rw];rw [zF h,Option.getD_none]
 refine ⟨λnm g b i n j=>?_,λnm g b i n O g' a1 n' D u=>?_,λk hk nm g D u=>?_,λnm g x c=>?_,λx v c=>?_,λnm o R af=>?_,?_,?_,λg o j R=>?_,λnm H=>?_,?_,λnm g x c H=>?_,λnm H h0=>?_⟩
 .
  by_cases h:nm<t.K'.next
  .rw [qd4 h] at j;exact (st.sim.lt _ _ _ _ _ j).1
  .rw [qi1 h] at j;exact zL (m.lt _ _ _ _ _ j) st.ext.size
 .
  by_cases h:nm<t.K'.next
  .rw [qd4 h] at D;by_cases M:O<t.K'.next
   .rw [qd4 M] at u;exact st.sim.inj _ _ _ _ _ _ _ _ _ D u
   .rw [qi1 M] at u;exact ((J O g' b a1 n' (by omega) u).2 _ _ _ _ D).elim
  .rw [qi1 h] at D;by_cases M:O<t.K'.next
   .rw [qd4 M] at u;exact ((J nm g b i n (by omega) D).2 _ _ _ _ u).elim
   .rw [qi1 M] at u;exact m.inj _ _ _ _ _ _ _ _ _ D u
 .
  have a8:G nm g=none:=by
   refine m.free k ?_ nm g D u;rcases List.mem_append.1 hk with h | h
   .exact List.mem_append.2 (.inl h)
   .exact List.mem_append.2 (.inr (zG _ h))
  have aa:¬ ((t.K.next<=nm/\nm<t.K'.next)∨(t.j9=true/\t.dom nm=true)):=by
   rcases List.mem_append.1 hk with h | h
   .obtain ⟨Y,q2⟩:=hA k h;rintro (q | q)
    .omega
    .have:=((q2 (.inr nm)).1 (by simp only [It.rw];rw [zT (.inl ⟨D,u⟩)];simp)).2;simp only [It.rw] at this;rw [zT (.inr q)] at this;cases this
   .have Y:=hB k h;rintro (q | q)
    .omega
    .have:=(It.qrl q.2).1;omega
  cases P:qpc G z t.K'.next nm g with
  | none=>rfl
  | some x=>rw [(C nm aa).1 g x P] at a8;cases a8
 .
  by_cases h:nm<t.K'.next
  .omega
  .rw [qi1 h] at c;exact m.top _ _ _ c
 .
  simp only [RW.app,It.rw] at c ⊢;by_cases X:t.o.dst=some x/\x<t.f.n
  .rw [zT X] at c ⊢;simp only [Option.getD_some,zS] at c ⊢;subst c;have l:x<a.tmps.size:=by rw [m.n,<-ok.n];exact X.2
   have e:(a.put t.o.dst y).tmps.getD x undef=y:=by
    simp only [Act.put,X.1];simp [Array.getElem?_setIfInBounds_self_of_lt l]
   rw [e];exact Rel.up S hy
  .rw [zF X] at c ⊢;simp only [Option.getD_none] at c ⊢;have e:(a.put t.o.dst y).tmps.getD x undef=a.tmps.getD x undef:=by
    cases ab:t.o.dst with
    | none=>rfl
    | some d=>
     simp only [Act.put];by_cases ad:x=d
     .subst ad;have:¬ x<a.tmps.size:=by rw [m.n,<-ok.n];exact λq=>X ⟨ab,q⟩
      rw [Array.setIfInBounds_eq_of_size_le (Nat.le_of_not_lt this)]
     .simp [Array.getElem?_setIfInBounds_ne (Ne.symm ad)]
   rw [e];exact Rel.up (L _) (m.tmp x v c)
 .
  by_cases F:(t.K.next<=nm/\nm<t.K'.next)∨(t.j9=true/\t.dom nm=true)
  .rw [Q nm F] at R ⊢;have l:nm<t.K'.next:=by
    rcases F with h | h
    .exact h.2
    .have:=(It.qrl h.2).1;omega
   exact ⟨l,(st.sim.obj nm o l R).up S (λg x c=>W _ _ _ c) (λ_ _ _ _ _=>rfl)⟩
  .rw [p nm F] at R ⊢;obtain ⟨Y,q2⟩:=m.obj nm o R af;obtain ⟨q3,q4⟩:=C nm F;exact ⟨Y,q2.up (L _) (λg x c=>qd7 Y (q3 g x (jc c).2)) (λg b i n j=>q4 g b i n (jc j).2)⟩
 .have:(a.put t.o.dst y).tmps.size=a.tmps.size:=by
   cases t.o.dst<;>simp [Act.put]
  rw [this];exact m.n
 .have:(a.put t.o.dst y).defers=a.defers:=by
   cases t.o.dst<;>rfl
  rw [this];exact qbr.up (L _) m.dfr
 .
  by_cases F:(t.K.next<=g/\g<t.K'.next)∨(t.j9=true/\t.dom g=true)
  .rw [Q g F] at R;have ag:g<t.K'.zf:=by rw [st.zf,ok.zf];exact j
   obtain ⟨n,H⟩:=st.sim.globs g o ag R;exact ⟨n,by rw [qd4 (U _ _ _ H)];exact H⟩
  .rw [p g F] at R;obtain ⟨n,H⟩:=m.globs g o j R;exact ⟨n,I _ _ _ H⟩
 .
  have V:=ok.ro;have T:=ok.roN;by_cases F:(t.K.next<=nm/\nm<t.K'.next)∨(t.j9=true/\t.dom nm=true)
  .rw [Q nm F];simp only;rw [st.keep nm (by omega)];rcases F with h | h
   .omega
   .rw [(a7 nm h.2).1];exact m.keep nm H
  .rw [p nm F];exact m.keep nm H
 .
  have V:=ok.ro;have T:=ok.roN;refine m.ext.trans ⟨I,λb hb ae=>?_,st.ext.size,st.ext.shp,λnm g b i n H j=>?_,st.ext.out⟩
  .have:=st.ext.frg b hb (λnm g i n h=>ae _ _ _ _ (jc h).2);refine ⟨this.1,λnm g i n h=>?_⟩;by_cases l:nm<t.K'.next
   .rw [qd4 l] at h;exact this.2 _ _ _ _ h
   .rw [qi1 l] at h;exact ae _ _ _ _ h
  .exact st.ext.ro nm g b i n (by omega) (qd7 (by omega) j)
 .
  have V:=ok.ro;have T:=ok.roN;rw [qd4 (by omega)] at c;exact m.newG nm g x (jc (st.newG nm g x c (by omega))).2 H
 .
  obtain ⟨Y,q2,q3⟩:=m.frame nm H h0;have ai:=ok.start;have l:nm<t.K.next:=by omega
  have r:t.K.get nm=none:=by
   by_cases P:t.K.get nm=none
   .exact P
   .have:=ok.dom nm l P;rw [(a7 nm this).1,Y] at P;exact (P rfl).elim
  obtain ⟨f1,f2,f3⟩:=st.frame nm l r;refine ⟨?_,λg b i n j=>?_,λg x c=>?_⟩
  .by_cases F:(t.K.next<=nm/\nm<t.K'.next)∨(t.j9=true/\t.dom nm=true)
   .rw [Q nm F];exact f1
   .rw [p nm F];exact Y
  .exact (f2 g b i n (qd7 l (m.ext.sub _ _ _ j))).trans (q2 g b i n j)
  .rw [qd4 (by omega)] at c;exact q3 g x (jc (f3 g x c)).2
end
end Go.E2
/- E2: A REGION THAT DRAWS ITS ORDER, whole. -/
namespace Go.E2
open Go
def qeq (acc:Array Nat) (o:Oper):Nat:=o.after.foldl (λs e=>if Region.binds .any e then s ||| 2 ^ e.on ||| acc.getD e.on 0 else s) 0
theorem qvj (acc:Array Nat) (o:Oper):qeq acc o=o.after.toList.foldl (λs e=>if Region.binds .any e then s ||| 2 ^ e.on ||| acc.getD e.on 0 else s) 0:=by
 unfold qeq;rw [Array.foldl_toList]
theorem qx6 (acc:Array Nat) (k:Nat):∀ (l:List Edge) (s:Nat),(l.foldl (λs e=>if Region.binds .any e then s ||| 2 ^ e.on ||| acc.getD e.on 0 else s) s).testBit k=true->
  s.testBit k=true∨∃ e ∈ l,Region.binds .any e=true/\(k=e.on∨(acc.getD e.on 0).testBit k=true)
 | [],s,h=>.inl h
 | e::l,s,h=>by
  simp only [List.foldl_cons] at h;rcases qx6 acc k l _ h with a | ⟨c,d,a⟩
  .by_cases b:Region.binds .any e=true
   .rw [zT b,Nat.testBit_or,Nat.testBit_or,Bool.or_eq_true,Bool.or_eq_true] at a;rcases a with (a | a) | a
    .exact .inl a
    .rw [Nat.testBit_two_pow,decide_eq_true_eq] at a;exact .inr ⟨e,zC,b,.inl a.symm⟩
    .exact .inr ⟨e,zC,b,.inr a⟩
   .rw [zF b] at a;exact .inl a
  .exact .inr ⟨c,zG _ d,a⟩
theorem qrn (acc a:Array Nat):∀ (l:List Edge) (s:Nat),(∀ e ∈ l,Region.binds .any e=true->acc.getD e.on 0=a.getD e.on 0)->
  l.foldl (λs e=>if Region.binds .any e then s ||| 2 ^ e.on ||| acc.getD e.on 0 else s) s=l.foldl (λs e=>if Region.binds .any e then s ||| 2 ^ e.on ||| a.getD e.on 0 else s) s
 | [],_,_=>rfl
 | e::l,s,h=>by
  simp only [List.foldl_cons];by_cases b:Region.binds .any e=true
  .rw [h e zC b];exact qrn acc a l _ (λc d=>h c (zG _ d))
  .rw [zF b,zF b];exact qrn acc a l _ (λc d=>h c (zG _ d))
theorem q4l {acc a:Array Nat} {o:Oper} (h:∀ e ∈ o.after,Region.binds .any e=true->acc.getD e.on 0=a.getD e.on 0):qeq acc o=qeq a o:=by
 rw [qvj,qvj];exact qrn _ _ _ _ (λe b=>h e (Array.mem_toList_iff.1 b))
theorem qvu {all:Array Oper} (p:∀ (j:Nat) (o:Oper),all[j]? = some o->∀ e ∈ o.after,Region.binds .any e=true->e.on<j):∀ (l:List Oper) (a:Array Nat),all.toList.drop a.size=l->
  (∀ j o,j<a.size->all[j]? = some o->a.getD j 0=qeq a o)->
  ∀ j o,all[j]? = some o->(l.foldl (λa o=>a.push (qeq a o)) a).getD j 0=qeq (l.foldl (λa o=>a.push (qeq a o)) a) o
 | [],a,h,k,j,o,c=>by
  have:all.size<=a.size:=by
   have:=congrArg List.length h;simp at this;omega
  have f:j<all.size:=by
   rw [Array.getElem?_eq_some_iff] at c;exact c.1
  exact k j o (by omega) c
 | x::l,a,h,k,j,o,c=>by
  simp only [List.foldl_cons];have q:all[a.size]? = some x:=by
   have:all.toList[a.size]? = some x:=by
    have r:(all.toList.drop a.size)[0]? = some x:=by rw [h];rfl
    simpa using r
   simpa using this
  have d:∀ j,j<a.size->(a.push (qeq a x)).getD j 0=a.getD j 0:=by
   intro j f;simp [Array.getElem?_push_lt f,Array.getElem?_eq_getElem f]
  refine qvu p l (a.push (qeq a x)) ?_ (λj o f c=>?_) j o c
  .rw [Array.size_push,<-List.drop_drop (i:=1) (j:=a.size)];rw [h];rfl
  .rw [Array.size_push] at f;have b:∀ e ∈ o.after,Region.binds .any e=true->a.getD e.on 0=(a.push (qeq a x)).getD e.on 0:=λe s m=>(d _ (by have:=p j o c e s m;omega)).symm;by_cases g:j<a.size
   .rw [d j g,k j o g c];exact q4l b
   .have n:j=a.size:=by omega
    subst n;rw [q] at c;cases c;have:(a.push (qeq a x)).getD a.size 0=qeq a x:=by simp
    rw [this];exact q4l b
theorem qx3 {all:Array Oper} (d:∀ (j:Nat) (o:Oper),all[j]? = some o->∀ e ∈ o.after,Region.binds .any e=true->e.on<j) {j k:Nat} {o:Oper} (f:all[j]? = some o) (h:((Region.before all).getD j 0).testBit k=true) :
  ∃ e ∈ o.after,Region.binds .any e=true/\(k=e.on∨((Region.before all).getD e.on 0).testBit k=true):=by
 have g:Region.before all=all.toList.foldl (λa o=>a.push (qeq a o)) #[]:=by
  unfold Region.before;rw [<-Array.foldl_toList];rfl
 have c:=qvu d all.toList #[] (by simp) (λj o i=>by simp at i) j o f;rw [<-g] at c;rw [c,qvj] at h;rcases qx6 _ _ _ _ h with b | ⟨e,b,l⟩
 .simp at b
 .exact ⟨e,Array.mem_toList_iff.1 b,l⟩
section
variable {P:Program} {sp:Nat->Option (List V->Heap->Option (CR×Heap))} {call:Call} {all:Array Oper} {fr0:Fr} {H0:Heap} {G0:qe} {w0:World} {N:Nat} {F:Fence} {n:Nat} {Q:Exit->Act->World->Prop}
theorem qu7 {listed:Array Bool} {i:Nat}:i ∈ Region.ready .any all listed↔i<all.size/\listed.getD i true=false/\∃ o,all[i]? = some o/\∀ e ∈ o.after,Region.binds .any e=true->listed.getD e.on false=true:=by
 unfold Region.ready;rw [List.mem_filter,List.mem_range];constructor
 .rintro ⟨b,a⟩;rw [zA,Bool.not_eq_true'] at a;obtain ⟨a,c⟩:=a;refine ⟨b,a,?_⟩;have d:all[i]? = some all[i]:=Array.getElem?_eq_getElem b;refine ⟨_,d,λe g f=>?_⟩;rw [d,zH,Option.getD_some,Array.all_eq_true'] at c;have:=c e g;rw [f] at this;simpa using this
 .rintro ⟨b,a,o,d,c⟩;refine ⟨b,?_⟩;rw [zA,Bool.not_eq_true'];refine ⟨a,?_⟩;rw [d,zH,Option.getD_some,Array.all_eq_true'];intro e g;by_cases f:Region.binds .any e=true
  .rw [c e g f];simp
  .simp [f]
theorem zhd (hc:qg5 P call) (hF:qgq F) (ah:H0.zf<=H0.ro) (hb:∀ (j:Nat) (o:Oper),all[j]? = some o->∀ e ∈ o.after,Region.binds .any e=true->e.on<j) (E:Loc->Val)
  (hQ:∀ G a w,Mid fr0 H0 G0 w0 N [] E G a w->Q .normal a w) :
  ∀ (m:Nat) (R:List It) (b:Array Bool) (s:Loc->Val) (G:qe) (a:Act) (w:World),R.length=m->b.size=all.size->(∀ i,i<all.size->(b.getD i true=false↔∃ t ∈ R,t.i=i))->
   (∀ j k,j<all.size->b.getD j true=true->((Region.before all).getD j 0).testBit k=true->b.getD k true=true)->
   (∀ t ∈ R,ItOk (zj P sp) call all fr0 H0 t/\t.K'.next<=N)->R.Pairwise (Rl (Region.before all) all)->qt0 (R.map (It.rw all)) s->q0h (R.map (It.rw all)) s=E->Mid fr0 H0 G0 w0 N R s G a w->
   wpAnyIn F n P .any all Q m b a w:=by
 intro m
 induction m with
 | zero=>
  intro R b s G a w p a6 l O C S H q u;have hR:R=[]:=List.eq_nil_of_length_eq_zero p;subst hR;refine ⟨?_,?_⟩
  .rw [List.eq_nil_iff_forall_not_mem];intro i hi;obtain ⟨h1,h2,_⟩:=qu7.1 hi;obtain ⟨t,M,_⟩:=(l i h1).1 h2;cases M
  .have:s=E:=q;subst this;exact hQ _ _ _ u
 | succ m ih=>
  intro R b s G a w p a6 l O C S H q u;have a7:∀ t ∈ R,t.i<all.size:=λt M=>by
   have:=(C t M).1.op;rw [Array.getElem?_eq_some_iff] at this;exact this.1
  refine ⟨λa8=>?_,λi hi=>?_⟩
  .exfalso;obtain ⟨r,R',rfl⟩:∃ r R',R=r::R':=by
    cases R with
    | nil=>simp at p
    | cons r R'=>exact ⟨r,R',rfl⟩
   have hr:=a7 r zC;have f:r.i ∈ Region.ready .any all b:=by
    refine qu7.2 ⟨hr,(l r.i hr).2 ⟨r,zC,rfl⟩,r.o,(C r zC).1.op,λe W ai=>?_⟩;have aa:=hb _ _ (C r zC).1.op e W ai;have U:¬ b.getD e.on true=false:=by
     intro hq;obtain ⟨t,M,T⟩:=(l e.on (by omega)).1 hq;rcases zD.1 M with rfl | M
     .omega
     .have:=((List.pairwise_cons.1 S).1 t M).1;omega
    have g:e.on<b.size:=by omega
    simp only [Array.getD_eq_getD_getElem?,Array.getElem?_eq_getElem g,Option.getD_some] at U ⊢;simpa using U
   rw [a8] at f;cases f
  .obtain ⟨h1,h2,o,ho,h3⟩:=qu7.1 hi;obtain ⟨t,M,T⟩:=(l i h1).1 h2;obtain ⟨A,B,rfl⟩:=List.append_of_mem M;obtain ⟨z,hN⟩:=C t M;have ab:=z.op;rw [T,ho] at ab;cases ab;rw [List.pairwise_append] at S;obtain ⟨pA,pB,X⟩:=S;obtain ⟨ad,aj⟩:=List.pairwise_cons.1 pB;have hA:∀ k ∈ A,k.K'.next<=t.K.next/\(k.rw all).dis (t.rw all):=by
    intro k d;obtain ⟨q1,q2,q3⟩:=X k d t zC;refine ⟨q2,q3.resolve_left (λI=>?_)⟩;unfold zy9 at I;rw [T] at I;obtain ⟨e,W,c,Y⟩:=qx3 hb ho I;have hl:=h3 e W c;have aa:=hb _ _ ho e W c;have g:e.on<b.size:=by omega
    have J:b.getD e.on true=true:=by
     simp only [Array.getD_eq_getD_getElem?,Array.getElem?_eq_getElem g,Option.getD_some] at hl ⊢;exact hl
    have ak:b.getD k.i true=true:=by
     rcases Y with h | h
     .rw [h];exact J
     .exact O e.on k.i (by omega) J h
    have ae:=(l k.i (a7 k (List.mem_append.2 (.inl d)))).2 ⟨k,List.mem_append.2 (.inl d),rfl⟩;rw [ak] at ae;cases ae
   have hB:∀ k ∈ B,t.K'.next<=k.K.next:=λk d=>(ad k d).2.1
   rw [List.map_append,List.map_cons] at H q;obtain ⟨v1,v2,v3⟩:=zpa (A.map (It.rw all)) (t.rw all) (B.map (It.rw all)) s (λx Z=>by
    obtain ⟨k,d,rfl⟩:=List.mem_map.1 Z;exact (hA k d).2) H
   obtain ⟨ms,mf⟩:=u.sim ah z hN v1;have f:∀ k,k ∈ A++B->k ∈ A++t::B:=by
    intro k d;rcases List.mem_append.1 d with h | h
    .exact List.mem_append.2 (.inl h)
    .exact List.mem_append.2 (.inr (zG _ h))
   have a1:∀ k ∈ A++B,k.i≠t.i:=by
    intro k d;rcases List.mem_append.1 d with h | h
    .have:=(X k h t zC).1;omega
    .have:=(ad k h).1;omega
   unfold wpOpIn;rw [ho];refine qpx hc hF ms mf z.run (λv y w' G' hv st hy=>?_) (λw' G' ch al Z=>by cases Z);cases hv;refine ih (A++B) (b.setIfInBounds i true) ((t.rw all).app s) _ _ w' (by simp at p ⊢;omega) (by simp [a6]) (λj hj=>?_) (λj k hj af V=>?_) (λk d=>C k (f k d)) ?_ (by rw [List.map_append];exact v2)
    (by rw [List.map_append,v3];exact q) (u.step z hN v1 hA hB st hy)
   .by_cases D:j=i
    .subst D;have:(b.setIfInBounds j true).getD j true=true:=by simp [Array.getElem?_setIfInBounds_self];split<;>simp
     rw [this];refine ⟨λh=>(Bool.noConfusion h),λ⟨k,d,an⟩=>(a1 k d (by omega)).elim⟩
    .have:(b.setIfInBounds i true).getD j true=b.getD j true:=by
      simp [Array.getElem?_setIfInBounds_ne (Ne.symm D)]
     rw [this,l j hj];constructor
     .rintro ⟨k,d,rfl⟩;rcases List.mem_append.1 d with h | h
      .exact ⟨k,List.mem_append.2 (.inl h),rfl⟩
      .rcases zD.1 h with rfl | h
       .exact (D T).elim
       .exact ⟨k,List.mem_append.2 (.inr h),rfl⟩
     .rintro ⟨k,d,rfl⟩;exact ⟨k,f k d,rfl⟩
   .have L:∀ x,b.getD x true=true->(b.setIfInBounds i true).getD x true=true:=by
     intro x Z;by_cases ag:x=i
     .subst ag;simp [Array.getElem?_setIfInBounds_self];split<;>simp
     .simpa [Array.getElem?_setIfInBounds_ne (Ne.symm ag)] using Z
    by_cases D:j=i
    .subst D;obtain ⟨e,W,c,Y⟩:=qx3 hb ho V;have hl:=h3 e W c;have aa:=hb _ _ ho e W c;have g:e.on<b.size:=by omega
     have J:b.getD e.on true=true:=by
      simp only [Array.getD_eq_getD_getElem?,Array.getElem?_eq_getElem g,Option.getD_some] at hl ⊢;exact hl
     rcases Y with h | h
     .rw [h];exact L _ J
     .exact L _ (O e.on k (by omega) J h)
    .rw [show (b.setIfInBounds i true).getD j true=b.getD j true by simp [Array.getElem?_setIfInBounds_ne (Ne.symm D)]] at af;exact L _ (O j k hj af V)
   .exact List.pairwise_append.2 ⟨pA,aj,λx Z y hy=>X x Z y (zG _ hy)⟩
theorem zgp {l:List Oper} {p:Oper×Nat->Bool} (h:l.zipIdx.all p=true) {i:Nat} {o:Oper} (a:l[i]? = some o):p (o,i)=true:=
 List.all_eq_true.1 h (o,i) (List.mem_zipIdx_iff_getElem?.2 a)
theorem q5l (hc:qg5 P call) (hm:P.follows .mixedOrders=true):zbb P sp call:=by
 intro c fr H fr' H' h V G w a F n id Q hF C e hQ;have u:∀ j o,c[j]? = some o->(∀ e ∈ o.after,Region.binds .any e=true->e.on<j)/\∀ k p,c[k]? = some p->k<j->((Region.before c).getD j 0).testBit k=false->p.apart c o=true:=by
  intro j o d;have U:=zgp V (by simpa using d:c.toList[j]? = some o);simp only [zA] at U;refine ⟨λe he W=>?_,λk p X hk y=>?_⟩
  .have:=Array.all_eq_true'.1 U.1.1 e he;rw [W] at this;simpa using this
  .have Y:=zgp U.2 (by simpa using X:c.toList[k]? = some p);simp only [Bool.or_eq_true,Nat.ble_eq,y,Bool.false_eq_true,or_false] at Y;exact Y.resolve_left (by omega)
 have hb:∀ (j:Nat) (o:Oper),c[j]? = some o->∀ e ∈ o.after,Region.binds .any e=true->e.on<j:=λj o d=>(u j o d).1;obtain ⟨s,r⟩:∃ s:Loc->Val,s=λl=>match l with
  | .inl x=>(fr.tmps.get x,none,H.next)
  | .inr nm=>(none,if nm<H.next then H.get nm else none,H.next):=⟨_,rfl⟩
 have L:Rep s fr H:=by
  subst r;exact ⟨λx=>⟨rfl,zN _⟩,λnm Z=>⟨by simp only;rw [zT Z],zN _⟩⟩
 obtain ⟨z,e1,e2,e3,M,_,e6,e7,e8,e9,E,N⟩:=qq5 (λk j p o X d hk y=>(u j o d).2 k p X hk y) c.toList 0 [] [] fr H fr' H' s h (λk=>by simp) (by simp) (by simp) (by simp) rfl rfl (zN _) rfl rfl C.ro L;obtain ⟨w1,I⟩:∃ w1:World,w1 = {w with drawn:=w.drawn+1}:=⟨_,rfl⟩;have st0:Step H G w H G w1:=Step.same C (by rw [I]) (by rw [I];exact ⟨rfl,rfl⟩);have es:=e.ext st0.ext;refine wpIn_region_any hm ?_;rw [<-I];have O:z.length=c.size:=by
  have:=congrArg List.length e1;simpa using this
 have J:Up G w1 (qgy G H.next) w1:=⟨λnm g x q=>qd7 (st0.sim.lt nm g x.1 x.2.1 x.2.2 q).2 q,λ_ _ h=>h⟩;have R:Mid fr H G w1 H'.next z s G a w1:=by
  refine ⟨λnm g b sh n D=>(st0.sim.lt _ _ _ _ _ D).1,st0.sim.inj,λt ht nm g U Y=>?_,λnm g x q=>?_,λx v q=>?_,λnm o d _=>?_,es.n,qbr.up J es.dfr,λg o D d=>?_,λnm K=>?_,Ext.refl _ _ _,λ_ _ _ h _=>h,λnm K h0=>?_⟩
  .cases hq:G nm g with
   | none=>rfl
   | some x=>have:=(st0.sim.lt nm g x.1 x.2.1 x.2.2 hq).2;have:=(e2 t ht).1.start;omega
  .have:=(st0.sim.lt nm g x.1 x.2.1 x.2.2 q).2;omega
  .subst r;exact Rel.up J (es.tmps x v q)
  .subst r;simp only at d ⊢;by_cases f:nm<H.next
   .rw [zT f] at d;exact ⟨f,(st0.sim.obj nm o f d).up J (λg x q=>(jc q).2) (λ_ _ _ _ _=>rfl)⟩
   .rw [zF f] at d;cases d
  .subst r;simp only at d;have:=C.zf;have:=C.ro;rw [zT (by omega)] at d;exact st0.sim.globs g o D d
  .subst r;have:=C.ro;simp only;rw [zT (by omega)]
  .subst r;refine ⟨?_,λ_ _ _ _ _=>rfl,λ_ _ h=>h⟩;simp only;rw [zT K];exact h0
 refine zhd hc hF C.zf hb (q0h (z.map (It.rw c)) s) (λG' a' w' m=>?_) c.size z (Array.replicate c.size false) s G a w1 O (by simp) (λi hi=>?_) (λj k hj S _=>?_) e2 e6 e3 rfl R
 .have A:∀ B,Up (qgy G' B) w' G' w':=λB=>⟨λnm g x q=>(jc q).2,λ_ _ h=>h⟩;have T:=C.ro;refine hQ _ _ _ ⟨G',st0.trans ⟨m.ext,⟨λnm g b sh n D=>⟨m.lt _ _ _ _ _ D,m.top _ _ _ D⟩,m.inj,λnm o f d=>?_,by rw [e9];exact zR T N,by rw [e9,E];exact C.zf,λg o D d=>?_⟩,N,e9,E,λnm K=>?_,m.newG,λnm K h0=>?_⟩,⟨λx v q=>?_,by rw [m.n,e7],?_⟩,rfl⟩
  .have hr:=(M.2 nm f).1;obtain ⟨q1,q2⟩:=m.obj nm o (hr.trans d) f;exact q2.up (A _) (λg x q=>qd7 q1 q) (λ_ _ _ _ _=>rfl)
  .rw [E] at D;have:=C.zf;have hr:=(M.2 g (by omega)).1;exact m.globs g o D (hr.trans d)
  .rw [<-(M.2 nm (by omega)).1];exact m.keep nm K
  .obtain ⟨q1,q2,q3⟩:=m.frame nm K h0;exact ⟨by rw [<-(M.2 nm (by omega)).1];exact q1,q2,q3⟩
  .exact Rel.up (A _) (m.tmp x v ((M.1 x).1.trans q))
  .rw [e8];exact qbr.up (A _) m.dfr
 .have:(Array.replicate c.size false).getD i true=false:=by simp [hi]
  rw [this];refine ⟨λ_=>?_,λ_=>rfl⟩;have hm:i ∈ z.map (·.i):=by rw [e1,List.mem_range'_1];simp;exact hi
  obtain ⟨t,ht,a1⟩:=List.mem_map.1 hm;exact ⟨t,ht,a1⟩
 .have:(Array.replicate c.size false).getD j true=false:=by simp [hj]
  rw [this] at S;cases S
end
end Go.E2
/- E2: DEFERRED CALLS: what E2 makes of a function that is deferred, and of what is recovered in it, the model makes of it. -/
namespace Go.E2
open Go
def qsf (G:qe) (w:World):Md->FrameMode->Prop
 | .returning,u=>u=.returning
 | .panicking v,u=>∃ x,u=.panicking [{v:=x,recovered:=false}]/\Rel G w v x
theorem qsf.ext {r:Nat} {G a:qe} {w w':World} (h:Ext r G w a w') {md:Md} {u:FrameMode} (e:qsf G w md u):qsf a w' md u:=by
 cases md with
 | returning=>exact e
 | panicking v=>obtain ⟨x,b,c⟩:=e;exact ⟨x,b,c.ext h⟩
theorem qsf.zwk {G:qe} {w:World} {md:Md} {u:FrameMode} (e:qsf G w md u):u≠.run:=by
 cases md with
 | returning=>subst e;simp
 | panicking v=>obtain ⟨x,rfl,a⟩:=e;simp
end Go.E2
/- E2: CALLS: what E2 makes of a function the model makes of it. -/
namespace Go.E2
open Go
section
variable {P:Program} {sp:Nat->Option (List V->Heap->Option (CR×Heap))} {H:Heap} {G:qe} {w:World} {fr:Fr} {a:Act}
def ztu (P:Program):Prop:=
 ∀ f b args v,P.funcs[f]? = some b->b.body=none->zhu (qvz b.name) args=some v->∀ G w (a:Array Value),qi G w args a.toList->
  ∃ x w',(callFunc f a).run P w=.ok (.value x) w'/\w'.heap=w.heap/\(w'.os=w.os/\w'.output=w.output)/\Rel G w v x
def qan (P:Program) (f:Nat) (s:List V->Heap->Option (CR×Heap)):Prop:=
 ∀ args H r H',s args H=some (r,H')->∀ G w a,Sim H G w->qi G w args a.toList->∃ b c,P.funcs[f]? = some b/\(b.name == "runtime.NumGoroutine")=false/\b.body=some c/\
  ∀ F n,qgq F->CallsIn F n P f a w λe w'=>∃ d,Step H G w H' d w'/\qkl d w' r e
def q97 (tmps:Array Value):ResultVar->Sem Value
 | .tmp t=>pure (tmps.getD t undef)
 | .cell a t=>do loadVar t (<-asAddr (tmps.getD a undef))
theorem qmj (c:Sim H G w) (e:SimFr G w fr a):∀ (rs:List ResultVar) (b:List V),jo (zj P sp) fr H rs=some b->∃ l,(rs.mapM (q97 a.tmps)).run P w=.ok l w/\qi G w b l
 | [],b,h=>by
  simp only [jo,zS] at h;subst h;exact ⟨[],by simp,qi.nil⟩
 | .tmp t::rs,b,h=>by
  simp only [jo,zI,zM] at h;obtain ⟨v,d,us,f,rfl⟩:=h;obtain ⟨l,g,i⟩:=qmj c e rs us f;exact ⟨_::l,by simp [List.mapM_cons,q97,g],qi.cons (qm3 e d) i⟩
 | .cell x t::rs,b,h=>by
  simp only [jo,zj,zI,zM] at h;obtain ⟨ti,j,p,k,v,d,us,f,rfl⟩:=h;obtain ⟨l,g,i⟩:=qmj c e rs us f;obtain ⟨y,ad,m,n,o⟩:=qk5 c j (qm3 e k) d;refine ⟨y::l,?_,qi.cons o i⟩;simp [List.mapM_cons,q97,g,m,asAddr,n]
theorem zbs (d:Sim H G w) (e:SimFr G w fr a) {fn:Func} {c:List V} (h:jo (zj P sp) fr H fn.results.toList=some c) :
  ∃ v,(results fn a.tmps).run P w=.ok v w/\Rel G w (oneOf c) v:=by
 obtain ⟨l,f,b⟩:=qmj d e _ _ h;have g:(fn.results.mapM (q97 a.tmps)).run P w=.ok l.toArray w:=by
  rw [Array.mapM_eq_mapM_toList];simp only [Sem.run_map,f,Result.andThen_ok]
 have i:results fn a.tmps=(do
   let c <-fn.results.mapM (q97 a.tmps)
   pure (if h:c.size=1 then c[0] else .tuple c)):=rfl
 rw [i];simp only [Sem.run_bind,g,Result.andThen_ok,Sem.run_pure];refine ⟨_,rfl,?_⟩
 match c,b with
 | [],b=>
  simp only [qi] at b;subst b;simp only [oneOf,Rel];exact ⟨_,rfl,qi.nil⟩
 | [v],b=>
  simp only [qi] at b;obtain ⟨x,m,rfl,j,rfl⟩:=b;exact j
 | u::v::c,b=>
  have k:=b.length;simp only [oneOf,Rel];refine ⟨l.toArray,?_,b⟩;rw [dif_neg (by simp at k ⊢;omega)]
theorem q8f {args:List V} {a:Array Value} (h:qi G w args a.toList) (k:Nat):SimFr G w {tmps:=qgs args,n:=max args.length k,defers:=[]} {tmps:=a++Array.replicate (k-a.size) undef,defers:=[]}:=by
 have d:=h.length;simp only [Array.length_toList] at d;refine ⟨λi v c=>?_,?_,by simp [qbr]⟩
 .simp only [qgs,Tree.qrq] at c;obtain ⟨x,b,e⟩:=h.get c;have:(a++Array.replicate (k-a.size) undef).getD i undef=x:=by
   rw [Array.getElem?_toList] at b;have hi:i<a.size:=by rw [Array.getElem?_eq_some_iff] at b;exact b.1
   rw [Array.getD_eq_getD_getElem?,Array.getElem?_append_left hi,b];rfl
  rw [this];exact e
 .simp only [Array.size_append,Array.size_replicate];omega
theorem qv5 {call:Call} (C:qg5 P call) (D:zbb P sp call) (d:∀ (f:Nat) (e:Func) (c:Code),P.funcs[f]? = some e->e.body=some c->codeOk c=true) (fuel:Nat) {F:Fence} {n:Nat} (E:qgq F) (q:F.round=none) {e:Func} {tmps:Array Value} {R:Ending->World->Prop} {g:Md} {H':Heap}:∀ (j:List Dfr) (l:List Deferred) (H:Heap) (G:qe) (w:World) (md:Md) (u:FrameMode),Sim H G w->qbr G w j l->qsf G w md u->leave (zj P sp) call fuel j md H=some (g,H')->
  (∀ w' k o,Step H G w H' k w'->qsf k w' g o->LeavesInM F n P e tmps R [] o w')->LeavesInM F n P e tmps R l u w
 | [],l,H,G,w,md,u,i,a,p,h,r=>by
  simp only [qbr] at a;subst a;simp only [leave,zS,zP] at h;obtain ⟨rfl,rfl⟩:=h;exact r w G u (Step.refl i) p
 | .mark nm::j,l,H,G,w,md,u,i,a,p,h,r=>by
  simp only [qbr] at a;obtain ⟨x,I,rfl,J,b,K,m,s,rfl⟩:=a;simp only [leave] at h;split at h
  .rename_i B;simp only [zI] at h;obtain ⟨H1,t,h⟩:=h;obtain ⟨L,rfl⟩:=qi9 t;have v:=i.obj nm _ (i.lt _ _ _ _ _ s).2 B;have y:=(v 0 b K m s).2;have st:=i.setObj .gone B s L (.deferred none) y (by simp only [World.shape?,y]) (λ_=>trivial);refine ⟨p.zwk,.inl ⟨b,_,rfl,?_,qv5 C D d fuel E q j I _ G _ md u st.sim (J.ext st.ext) (p.ext st.ext) h (λw' k o z A=>r w' k o (st.trans z) A)⟩⟩;simp only [Instr.takeDeferred,Sem.run_bind];simp [getObj,setObj,Sem.run,y,qpy]
  .cases h
theorem qd6 {ln:Nat}:∀ (ps:List Tmp) (args:List V) (t c:Tree V) (b:Array Value) (a:List Value),q1l G w t b->b.size=ln->qi G w args a->qee ln ps args t=some c->
  a.length=ps.length/\q1l G w c ((ps.zip a).foldl (λtmps (x:Tmp×Value)=>tmps.setIfInBounds x.1 x.2) b)/\((ps.zip a).foldl (λtmps (x:Tmp×Value)=>tmps.setIfInBounds x.1 x.2) b).size=ln
 | [],[],t,c,b,a,f,e,d,h=>by
  simp only [qi] at d;subst d;simp only [qee,zS] at h;subst h;exact ⟨rfl,f,e⟩
 | [],_::_,t,c,b,a,f,e,d,h=>by simp [qee] at h
 | _::_,[],t,c,b,a,f,e,d,h=>by simp [qee] at h
 | p::ps,v::args,t,c,b,a,f,e,d,h=>by
  simp only [qi] at d;obtain ⟨y,i,rfl,j,k⟩:=d;simp only [qee,cond_eq_ite,Nat.blt_eq] at h;split at h
  .rename_i l;have m:SimFr G w {tmps:=t,n:=ln,defers:=[]} {tmps:=b,defers:=[]}:=⟨f,e,by simp [qbr]⟩;have g:=(m.put (some p) j).tmps;simp only [Fr.put,Act.put,cond_eq_ite,Nat.blt_eq,l,if_true] at g;obtain ⟨o,q,r⟩:=qd6 ps args (t.set p v) c (b.setIfInBounds p y) i g (by simpa using e) k h;exact ⟨by simp [o],q,r⟩
  .cases h
theorem qkt (d:Sim H G w) {l b e n:Nat} (f:G l 0=some (b,e,n)) {jump:Option Code} {r:CR} {H':Heap} (h:qh4 H l jump=some (r,H')) :
  ∃ v w',(Instr.endRound b jump).run P w=.ok v w'/\Step H G w H' G w'/\qkl G w' r (.returned v):=by
 unfold qh4 at h;split at h
 .rename_i st a lt ln j k m o g;simp only [zM,zP] at h;obtain ⟨H1,i,rfl,rfl⟩:=h;obtain ⟨L,c,_,_,st1⟩:=d.q6z g f i;refine ⟨.bool jump.isNone,_,?_,st1,⟨_,rfl,by simp only [Rel]⟩⟩;simp only [Instr.endRound,Sem.run_bind,run_getLoop c,Result.andThen_ok,run_setObj_loop c,Sem.run_pure]
 .cases h
theorem qub (d:Sim H G w) {l b e n:Nat} (f:G l 0=some (b,e,n)) {H':Heap} (h:qx5 H l=some H') :
  ∃ w',(Instr.beginRound b).run P w=.ok () w'/\Step H G w H' G w':=by
 unfold qx5 at h;split at h
 .rename_i a lt ln k m o p g;obtain ⟨L,c,i,j,st1⟩:=d.q6z g f h;refine ⟨_,?_,j ▸ st1⟩;simp only [Instr.beginRound,Sem.run_bind,run_getLoop c,Result.andThen_ok,run_setObj_loop c,i,Sem.run_pure]
 .cases h
theorem qle (fr:Fr) (H:Heap):∀ (rs:List ResultVar),jo (zj P sp) {fr with defers:=[]} H rs=jo (zj P sp) fr H rs
 | []=>rfl
 | .tmp t::rs=>by simp only [jo,qle fr H rs];rfl
 | .cell x t::rs=>by simp only [jo,qle fr H rs];rfl
theorem qxs.ext {r:Nat} {a:qe} {w':World} (h:Ext r G w a w') {p:PE} {q:PanicEntry} (e:qxs G w p q):qxs a w' p q:=⟨e.1.ext h,e.2⟩
theorem qoj.ext {r:Nat} {a:qe} {w':World} (h:Ext r G w a w'):∀ {l:List PE} {b:List PanicEntry},qoj G w l b->qoj a w' l b
 | [],_,e=>e
 | p::ps,_,e=>by
  obtain ⟨q,c,rfl,d,f⟩:=e;exact ⟨q,c,rfl,d.ext h,qoj.ext h f⟩
theorem qba (hm:P.follows .mixedOrders=true) (g:ztu P) (d:∀ (f:Nat) (I:Func) (c:Code),P.funcs[f]? = some I->I.body=some c->codeOk c=true)
  (p:∀ f s,sp f=some s->qan P f s):∀ n,qg5 P (qax (zj P sp) n)
 | 0=>by intro Z args H r H' h;simp [qax] at h
 | n+1=>by
  intro Z args H r H' h G w t a X ht;cases Z with
  | round l=>
   obtain ⟨cap,b,sh,m,rfl,hg,hr⟩:=ht;simp only [qax] at h;split at h
   .rename_i st ar lt ln lp la lb ld ho;simp only [zI] at h;obtain ⟨t',a1,h⟩:=h;obtain ⟨_,L,e1,e2,e3,e4,e5,e6,e7,ah,e8,e9,db,au,dn,av,aw⟩:=X.obj l _ (X.lt _ _ _ _ _ hg).2 ho 0 b sh m hg;obtain ⟨q1,q2,q3⟩:=qd6 lp args lt t' L.tmps a.toList e9 e8 hr a1;have a6:(L.params.zip a).foldl (λtmps (x:Tmp×Value)=>tmps.setIfInBounds x.1 x.2) L.tmps=(lp.zip a.toList).foldl (λtmps (x:Tmp×Value)=>tmps.setIfInBounds x.1 x.2) L.tmps:=by
     rw [<-Array.foldl_toList,Array.toList_zip,e4]
    refine .inr (.inr ⟨b,L.fn,(lp.zip a.toList).foldl (λtmps (x:Tmp×Value)=>tmps.setIfInBounds x.1 x.2) L.tmps,L.assign,L.body,?_,λF k Y=>?_⟩)
    .have D:(invoke (.fn (.yield b) cap) a).run P w=(Instr.yield b a).run P w:=rfl;have ai:¬ a.size≠L.params.size:=by
      have h1:L.params.size=lp.length:=by rw [<-e4];simp
      have h2:a.size=lp.length:=by simpa using q1
      omega
     rw [D,<-a6];simp only [Instr.yield,Sem.run_bind,run_getLoop e1,Result.andThen_ok,zF ai,Sem.run_pure]
    .split at h
     .rename_i aj H1 ak;simp only [zI] at h;obtain ⟨C,a7,y,a8,o⟩:=h;refine roundIn_of_wpIn (Y.1 _) ?_;rw [e5,e6];refine jw (qba hm g d p n) (q5l (qba hm g d p n) hm) 0 (n+1) la e7 (some l) H G w {tmps:=t',n:=ln,defers:=[]} _ _ (F.inRound b) k _ (Y.inRound b) ⟨b,sh,m,hg,rfl⟩ X ⟨q2,q3,by simp [qbr]⟩ ak (λex a' w' hp=>?_);obtain ⟨G1,st1,al,aa⟩:=hp;simp only [qxr] at aa;subst aa;have O:=st1.ext.sub _ _ _ hg;obtain ⟨w2,an,st2⟩:=qub (P:=P) st1.sim O a7;refine ⟨w2,an,?_⟩;refine jw (qba hm g d p n) (q5l (qba hm g d p n) hm) 0 (n+1) lb ah (some l) C G1 w2 aj _ _ (F.inRound b) k _ (Y.inRound b) ⟨b,sh,m,O,rfl⟩ st2.sim (al.ext st2.ext) a8 (λex ax ay hp=>?_);obtain ⟨G3,st3,ab,q⟩:=hp;have Q:=st3.ext.sub _ _ _ O;have stA:=(st1.trans st2).trans st3;unfold qpw at o;split at o
      .rename_i R;rw [R] at q;simp only [qxr] at q;subst q;obtain ⟨v,w4,g1,g2,g3⟩:=qkt (P:=P) st3.sim Q o;exact ⟨v,w4,g1,G3,stA.trans g2,g3⟩
      .rename_i R;rw [R] at q;simp only [qxr] at q;subst q;obtain ⟨v,w4,g1,g2,g3⟩:=qkt (P:=P) st3.sim Q o;exact ⟨v,w4,g1,G3,stA.trans g2,g3⟩
      .rename_i id R;rw [R] at q;simp only [qxr] at q;subst q;obtain ⟨v,w4,g1,g2,g3⟩:=qkt (P:=P) st3.sim Q o;exact ⟨v,w4,g1,G3,stA.trans g2,g3⟩
      .cases o
     .cases h
   .cases h
  | func f=>
   obtain ⟨cap,rfl,hr⟩:=ht;have S:qi G w args (a++cap).toList:=by simpa using hr
   have D:(invoke (.fn (.func f) cap) a).run P w=(callFunc f (a++cap)).run P w:=rfl;rw [D];simp only [qax] at h;split at h
   .rename_i r' B;cases h;split at B
    .rename_i s J;obtain ⟨I,c,h1,h2,h3,h4⟩:=p f s J args H r H' B G w _ X S;exact .inr (.inl ⟨f,a++cap,qbt h1 h2 h3 _ _,h4⟩)
    .cases B
   .simp only [zI] at h;obtain ⟨fi,z,h⟩:=h;simp only [zj,funcOf] at z;split at z
    .rename_i I K;rw [cond_eq_ite] at z;split at z
     .cases z
     .rename_i T;have M:(I.name == "runtime.NumGoroutine")=false:=by simpa using T
      split at z
      .rename_i c i;cases z;simp only [zI] at h;obtain ⟨x,R,y,A,h⟩:=h;refine .inr (.inl ⟨f,a++cap,qbt K M i _ _,λF m Y=>?_⟩);have ad:qgq {F with round:=none}:=Y;refine (CallsIn.inRound (F:={F with round:=none}) 0 (callsIn_of_wp_marks (F:={F with round:=none}) K i (Y.1 f) ?_ rfl):CallsIn F m P f (a++cap) w _);refine jw (qba hm g d p n) (q5l (qba hm g d p n) hm) f (n+1) c (d f I c K i) none H G w _ _ x _ m _ ad rfl X (q8f S I.ntmps) R (λex a' w' hp=>?_);obtain ⟨G',st,sf,N⟩:=hp;have U:∀ md j C u,qsf G' w' md u->leave (zj P sp) (qax (zj P sp) n) (n+1) x.2.1.defers md x.2.2=some (j,C)->y=(j,x.2.1,C)->LeavesInM {F with round:=none} m P I a'.tmps (λe w'=>∃ G',Step H G w H' G' w'/\qkl G' w' r e) a'.defers u w':=by
        intro md j C u ao V A;subst A;refine qv5 (qba hm g d p n) (q5l (qba hm g d p n) hm) d (n+1) ad rfl _ _ _ _ _ _ _ st.sim sf.dfr ao V (λw2 G2 u2 st2 W=>?_);cases j with
        | returning=>
         simp only [qsf] at W;subst W;simp only [qs7,zM,zP] at h;obtain ⟨vs,aq,rfl,rfl⟩:=h;have ae:=sf.ext st2.ext;have ab:SimFr G2 w2 {x.2.1 with defers:=[]} {a' with defers:=[]}:=⟨ae.tmps,ae.n,by simp [qbr]⟩;have af:jo (zj P sp) {x.2.1 with defers:=[]} C I.results.toList=some vs:=by rw [<-aq];exact qle _ _ _
         obtain ⟨v,b1,b2⟩:=zbs st2.sim ab af;exact ⟨v,b1,G2,st.trans st2,v,rfl,b2⟩
        | panicking v=>
         obtain ⟨rv,rfl,hv⟩:=W;simp only [qs7,zS,zP] at h;obtain ⟨rfl,rfl⟩:=h;exact ⟨G2,st.trans st2,_,rfl,by simp only [qoj,qxs];exact ⟨_,_,rfl,⟨hv,rfl,rfl⟩,rfl⟩⟩
       unfold q68 at A;split at A
       .rename_i E;rw [E] at N;simp only [qxr] at N;subst N;simp only [zM] at A;obtain ⟨⟨j,C⟩,V,A⟩:=A;exact U .returning j C .returning rfl V A.symm
       .rename_i E;rw [E] at N;simp only [qxr] at N;subst N;simp only [zM] at A;obtain ⟨⟨j,C⟩,V,A⟩:=A;exact U .returning j C .returning rfl V A.symm
       .rename_i v E;rw [E] at N;obtain ⟨az,rfl,ag⟩:=N;simp only [qoj,qxs] at ag;obtain ⟨⟨qv,qr,qg⟩,qs,rfl,⟨q1,q2,q3⟩,rfl⟩:=ag;simp only at q2 q3;subst q2;subst q3;simp only [zM] at A;obtain ⟨⟨j,C⟩,V,A⟩:=A;exact U (.panicking v) j C _ ⟨qv,rfl,q1⟩ V A.symm
       .cases A
      .rename_i i;cases z;simp only [zM,zP] at h;obtain ⟨v,hv,rfl,rfl⟩:=h;obtain ⟨x,w',e1,e2,eo,e3⟩:=g f I args v K i hv G w _ S;exact .inl ⟨x,w',G,v,e1,Step.same X e2 eo,rfl,e3.same e2⟩
    .cases z
end
end Go.E2
/- E2: FUNCTIONS WITHOUT A BODY, and what is asked of a program's tables, in one check. -/
namespace Go.E2
open Go
def zrl (fn:Func):Bool:=
 match fn.body with
 | some c=>codeOk c
 | none=>Nat.beq (qvz fn.name) 0 || fn.origin == "" || fn.origin == fn.name
def qnx (P:Program):Bool:=P.funcs.all zrl
section
variable {P:Program}
theorem zeu (h:qnx P=true) {f:Nat} {fn:Func} (a:P.funcs[f]? = some fn):zrl fn=true:=by
 simp only [qnx] at h;rw [Array.all_eq_true] at h;rw [Array.getElem?_eq_some_iff] at a;obtain ⟨hi,rfl⟩:=a;exact h f hi
theorem zd8 (h:qnx P=true) (f:Nat) (fn:Func) (c:Code) (a:P.funcs[f]? = some fn) (b:fn.body=some c):codeOk c=true:=by
 have:=zeu h a;simpa only [zrl,b] using this
theorem qux {fn:Func} {s:String} (b:fn.name=s) (a:fn.origin = "" ∨ fn.origin=fn.name) (h:Extern.allNextRows.lookup s=none):Extern.findNext fn=none:=by
 have c:Extern.allNextRows.lookup "" = none:=by kernel_rfl
 rcases a with a | a
 .simp only [Extern.findNext,a,b,h,c];rfl
 .simp only [Extern.findNext,a,b,h];rfl
theorem quw {fn:Func} {s:String} {e:Array Value->Sem Value} (a:fn.name=s) (b:Extern.allGenericRows.lookup s=none) (c:Extern.allTypedRows.lookup s=none) (d:Extern.allRows.lookup s=some e):Extern.find fn=some e:=by
 simp only [Extern.find,a,b,c,d];rfl
theorem qlr (c:UInt8):∀ l:List UInt8,Lib.indexByte l c=(match l.findIdx? (λb=>b == c) with | some i=>(i:Int) | none=>-1)
 | []=>rfl
 | b::l=>by
  unfold Lib.indexByte;rw [List.findIdx?_cons,qlr c l];by_cases h:(b == c)=true
  .simp [h]
  .simp only [h];cases a:l.findIdx? (λb=>b == c) with
   | none=>simp
   | some i=>
    have:¬ ((i:Int) == -1)=true:=by simp
    simp [this]
theorem zt0 (h:qnx P=true):ztu P:=by
 intro f e args v p t k G w d m;have n:=zeu h p;simp only [zrl,t,Bool.or_eq_true,Nat.beq_eq,beq_iff_eq] at n;unfold zhu at k;have q:qvz e.name≠0:=by
  intro z;rw [z] at k;simp at k
 have r:e.origin = "" ∨ e.origin=e.name:=by
  rcases n with (g | g) | g
  .exact (q g).elim
  .exact .inl g
  .exact .inr g
 have l:e.body.isNone=true:=by rw [t];rfl
 have a:(qvz e.name=1->e.name = "internal/bytealg.IndexByteString")/\(qvz e.name=2->e.name = "internal/bytealg.CountString")/\(qvz e.name=4->e.name = "internal/abi.NoEscape"):=by
  unfold qvz;simp only [beq_iff_eq];refine ⟨?_,?_,?_⟩<;>(intro h;repeat (split at h<;>try (first | omega | assumption)))
 split at k
 .rename_i s c o;cases k;have i:=a.1 o;simp only [qi] at m;obtain ⟨x,u,g,rfl,y,A,rfl,rfl,rfl⟩:=m;have j:d = #[.string ⟨s.toArray⟩,.int .u8 c]:=by apply Array.ext';simpa using g
  refine ⟨.int .i64 (Lib.indexByte s c.toNat.toUInt8),w,?_,rfl,⟨rfl,rfl⟩,by simp only [Rel,qlr];rfl⟩;rw [run_callFunc_extern p (by rw [i];decide) l (qux i r (by kernel_rfl)) (quw i (by kernel_rfl) (by kernel_rfl) (by kernel_rfl:Extern.allRows.lookup "internal/bytealg.IndexByteString" = some Extern.BytealgIndexByte.indexByte))];rw [j,Lib.run_indexByteString];simp only [Result.andThen_ok]
 .rename_i s c o;cases k;have i:=a.2.1 o;simp only [qi] at m;obtain ⟨x,u,g,rfl,y,A,rfl,rfl,rfl⟩:=m;have j:d = #[.string ⟨s.toArray⟩,.int .u8 c]:=by apply Array.ext';simpa using g
  refine ⟨.int .i64 (s.countP (λb=>b == c.toNat.toUInt8):Nat),w,?_,rfl,⟨rfl,rfl⟩,by simp only [Rel]⟩;rw [run_callFunc_extern p (by rw [i];decide) l (qux i r (by kernel_rfl)) (quw i (by kernel_rfl) (by kernel_rfl) (by kernel_rfl:Extern.allRows.lookup "internal/bytealg.CountString" = some Extern.BytealgCount.count))];rw [j,Lib.run_countString];simp only [Result.andThen_ok,Lib.countByte];rfl
 .rename_i x o;cases k;have i:=a.2.2 o;simp only [qi] at m;obtain ⟨y,u,g,B,rfl⟩:=m;have j:d = #[y]:=by apply Array.ext';simpa using g
  refine ⟨y,w,?_,rfl,⟨rfl,rfl⟩,B⟩;rw [run_callFunc_extern p (by rw [i];decide) l (qux i r (by kernel_rfl)) (quw i (by kernel_rfl) (by kernel_rfl) (by kernel_rfl:Extern.allRows.lookup "internal/abi.NoEscape" = some Extern.AbiNoEscape.same))];rw [j,Lib.run_noEscape];simp only [Result.andThen_ok]
 .cases k
end
end Go.E2
/- E2: FROM A RUN OF E2 TO A CONTRACT of the model's; a function without arguments that answers true. -/
namespace Go.E2
open Go Go.ChangeShapes Go.WideShapes Go.ChangeAt Go.RowKit
section
variable {P:Program} {H H':Heap} {G:qe} {W:World}
theorem qg5.calls {call:Call} (k:qg5 P call) {f:FuncId} {fn:Func} {c:Code} (m:P.funcs[f]? = some fn) (g:(fn.name == "runtime.NumGoroutine")=false) (n:fn.body=some c)
  {args:List V} {a:Array Value} {r:CR} (h:call (.func f) args H=some (r,H')) (o:Sim H G W) (p:qi G W args a.toList) :
  Calls P f a W λe w'=>∃ j,Step H G W H' j w'/\qkl j w' r e:=by
 have b:(invoke (.fn (.func f) #[]) a).run P W=.ok (.enter f a) W:=by
  have q:(invoke (.fn (.func f) #[]) a).run P W=(callFunc f (a++#[])).run P W:=rfl;rw [q,Array.append_empty,qbt m g n]
 rcases k (.func f) args H r H' h G W (.fn (.func f) #[]) a o ⟨#[],rfl,by simpa using p⟩ with ⟨x,w',j,v,d,_⟩ | ⟨s,i,d,t⟩ | ⟨l,s,u,w,y,d,_⟩
 .rw [b] at d;cases d
 .rw [b] at d;cases d;exact callsIn_wide.1 (t Fence.wide 0 ⟨λ_=>trivial,rfl,rfl⟩)
 .rw [b] at d;cases d
def H0:Heap:={qbq:=.nil,next:=0,ro:=0,zf:=0}
def noG:qe:=λ_ _=>none
theorem Step.keptBut {w':World} {c:qe} (h:Step H0 noG W H' c w') (may:MemPlace->Prop):W.keptBut w' may:=by
 refine ⟨h.ext.out.1,h.ext.out.2,λi hi=>?_⟩;have d:=(h.ext.frg i hi (λ_ _ _ _ h=>by cases h)).1;rw [d];split
 .rename_i b a;rw [b] at a;cases a;exact ⟨rfl,rfl,rfl,λ_ _=>rfl⟩
 .rename_i b a;rw [b] at a;cases a;exact .inr ⟨rfl,rfl⟩
 .rfl
end
end Go.E2
/- E2: A LONG RUN IN PIECES, with states written out between them; the package-level variables that a row lists, as names of E2's. -/
namespace Go.E2
open Go Go.ChangeShapes
mutual
def qlj:V->V->Bool
 | .int k a,.int o b=>decide (k=o)&&decide (a=b)
 | .bool a,.bool b=>a == b
 | .str a,.str b=>a == b
 | .ptr a b c d,.ptr g i h j=>Nat.beq a g&&Nat.beq b i&&Nat.beq c h&&Nat.beq d j
 | .nilp,.nilp=>true
 | .slice a b c d e f,.slice g i h j p m=>Nat.beq a g&&Nat.beq b i&&Nat.beq c h&&Nat.beq d j&&Nat.beq e p&&(f == m)
 | .nils,.nils=>true
 | .func (.func f) a c,.func (.func m) g h=>Nat.beq f m&&qwv a g&&qwv c h
 | .nilf,.nilf=>true
 | .iface t v,.iface q r=>Nat.beq t q&&qlj v r
 | .nili,.nili=>true
 | .agg l,.agg n=>qwv l n
 | .tuple l,.tuple n=>qwv l n
 | .map a,.map b=>Nat.beq a b
 | .nilm,.nilm=>true
 | _,_=>false
def qwv:List V->List V->Bool
 | [],[]=>true
 | v::l,a::b=>qlj v a&&qwv l b
 | _,_=>false
end
mutual
theorem qll:∀ {a b:V},qlj a b=true->a=b
 | .int k a,.int p b,h=>by simp only [qlj,zA,decide_eq_true_eq] at h;rw [h.1,h.2]
 | .bool a,.bool b,h=>by simp only [qlj,beq_iff_eq] at h;rw [h]
 | .str a,.str b,h=>by simp only [qlj,beq_iff_eq] at h;rw [h]
 | .ptr a b c d,.ptr g j i m,h=>by simp only [qlj,zA,Nat.beq_eq] at h;obtain ⟨⟨⟨rfl,rfl⟩,rfl⟩,rfl⟩:=h;rfl
 | .nilp,.nilp,_=>rfl
 | .slice a b c d e f,.slice g j i m q n,h=>by simp only [qlj,zA,Nat.beq_eq,beq_iff_eq] at h;obtain ⟨⟨⟨⟨⟨rfl,rfl⟩,rfl⟩,rfl⟩,rfl⟩,rfl⟩:=h;rfl
 | .nils,.nils,_=>rfl
 | .func (.func f) a c,.func (.func n) g i,h=>by
  simp only [qlj,zA,Nat.beq_eq] at h;rw [h.1.1,qne h.1.2,qne h.2]
 | .nilf,.nilf,_=>rfl
 | .iface t v,.iface r s,h=>by
  simp only [qlj,zA,Nat.beq_eq] at h;rw [h.1,qll h.2]
 | .nili,.nili,_=>rfl
 | .agg l,.agg o,h=>by simp only [qlj] at h;rw [qne h]
 | .tuple l,.tuple o,h=>by simp only [qlj] at h;rw [qne h]
 | .map a,.map b,h=>by simp only [qlj,Nat.beq_eq] at h;rw [h]
 | .nilm,.nilm,_=>rfl
theorem qne:∀ {a b:List V},qwv a b=true->a=b
 | [],[],_=>rfl
 | v::l,c::d,h=>by
  simp only [qwv,zA] at h;rw [qll h.1,qne h.2]
end
def zrg:O->O->Bool
 | .row c e g f z x,.row a b d h i j=>qwv c a&&Nat.beq e b&&Nat.beq g d&&Nat.beq f h&&Nat.beq z i&&(x == j)
 | _,_=>false
theorem zem {a b:O} (h:zrg a b=true):a=b:=by
 unfold zrg at h;split at h
 .simp only [zA,Nat.beq_eq,beq_iff_eq] at h;obtain ⟨⟨⟨⟨⟨c,rfl⟩,rfl⟩,rfl⟩,rfl⟩,rfl⟩:=h;rw [qne c]
 .cases h
def qe7 {α:Type}:List (Nat×α)->Tree α
 | []=>.nil
 | (k,v)::l=>(qe7 l).set k v
theorem qby {α:Type}:∀ (l:List (Nat×α)) (k:Nat) (v:α),(qe7 l).get k=some v->(k,v) ∈ l
 | [],k,v,h=>by simp [qe7,Tree.get] at h
 | (b,c)::l,k,v,h=>by
  simp only [qe7,Tree.kv] at h;by_cases a:k=b
  .rw [zT a] at h;cases h;rw [a];exact zC
  .rw [zF a] at h;exact zG _ (qby l k v h)
structure Fact where
 f:Nat
 args:List V
 pre:List (Nat×O)
 next:Nat
 ro:Nat
 zf:Nat
 ret:V
 post:List (Nat×O)
 next':Nat
def Fact.heap (F:Fact):Heap:={qbq:=qe7 F.pre,next:=F.next,ro:=F.ro,zf:=F.zf}
def qzf (H:Heap) (l:List (Nat×O)):Bool:=
 l.all λx=>match H.get x.1 with
  | some o=>zrg o x.2
  | none=>false
theorem holds_of {H:Heap} {l:List (Nat×O)} (h:qzf H l=true) {k:Nat} {o:O} (a:(k,o) ∈ l):H.get k=some o:=by
 have:=List.all_eq_true.1 h (k,o) a;simp only at this;split at this
 .rename_i u b;rw [b,zem this]
 .cases this
def Fact.ok (F:Fact) (E:Env) (n:Nat):Bool:=
 match qax E n (.func F.f) F.args F.heap with
 | some (.ret v,H)=>qlj v F.ret&&Nat.beq H.next F.next'&&Nat.ble F.next F.next'&&qzf H F.post
 | _=>false
def Fact.dels (F:Fact):List Nat:=(F.pre.map (·.1)).filter (λk=>Nat.ble F.ro k)++List.range' F.next (F.next'-F.next)
def Fact.try (F:Fact) (args:List V) (H:Heap):Option (CR×Heap):=
 match H with
 | ⟨t,k,r,g⟩=>bif qwv args F.args&&Nat.beq k F.next&&Nat.beq r F.ro&&Nat.beq g F.zf&&qzf ⟨t,k,r,g⟩ F.pre then
   some (.ret F.ret,⟨ke (qe7 F.post) F.dels t,F.next',r,g⟩) else none
section
variable {P:Program} {sp:Nat->Option (List V->Heap->Option (CR×Heap))} {n:Nat}
theorem Fact.step {F:Fact} {H H1:Heap} {G y:qe} {w w':World} (n:Sim H G w) (u:H.next=F.next) (z:H.ro=F.ro) (N:H.zf=F.zf) (j:qzf H F.pre=true) (st:Step F.heap G w H1 y w') (J:H1.next=F.next') (hle:F.next<=F.next')
  (p:qzf H1 F.post=true):Step H G w {H with qbq:=ke (qe7 F.post) F.dels H.qbq,next:=F.next'} y w':=by
 have d:∀ nm,({H with qbq:=ke (qe7 F.post) F.dels H.qbq,next:=F.next'}:Heap).get nm=if nm ∈ F.dels then (qe7 F.post).get nm else H.get nm:=λnm=>js _ _ _ _
 have r:∀ nm o,F.heap.get nm=some o->H.get nm=some o:=λnm o h=>holds_of j (qby _ _ _ h);have s:∀ nm,F.ro<=nm->nm<F.next->nm ∉ F.dels->F.heap.get nm=none:=by
  intro nm f _ c;cases A:F.heap.get nm with
  | none=>rfl
  | some o=>
   exfalso;apply c;refine List.mem_append_left _ (List.mem_filter.2 ⟨?_,by simpa using f⟩);exact List.mem_map.2 ⟨(nm,o),qby _ _ _ A,rfl⟩
 have k:∀ nm,nm<F.ro->nm ∉ F.dels:=by
  intro nm f c;rcases List.mem_append.1 c with c | c
  .have:=(List.mem_filter.1 c).2;rw [Nat.ble_eq] at this;omega
  .have:=(List.mem_range'_1.1 c).1;have K:=st.sim.ro;have:=n.ro;omega
 have e:Ext H.ro G w y w':=by
  have h:=st.ext;rw [show F.heap.ro=H.ro from z.symm] at h;exact h
 refine ⟨e,⟨λnm g b B m q=>?_,st.sim.inj,λnm o v l=>?_,?_,?_,λg o q l=>?_⟩,by simp only;rw [u];exact hle,rfl,rfl,λnm f=>?_,λnm g x t f=>st.newG nm g x t (show nm<F.ro by rw [<-z];exact f),λnm v a=>?_⟩
 .have:=st.sim.lt nm g b B m q;rw [J] at this;exact this
 .rw [d] at l;split at l
  .have:=holds_of p (qby _ _ _ l);exact st.sim.obj nm o (by rw [J];exact v) this
  .rename_i c;by_cases i:nm<F.next
   .by_cases f:nm<F.ro
    .have C:=n.obj nm o (by rw [u];exact i) l;refine C.ext e (λg x t=>st.newG nm g x t f) (λg b B m q=>st.ext.ro nm g b B m f q)
    .obtain ⟨_,D,E⟩:=st.frame nm i (s nm (by omega) i c);exact (n.obj nm o (by rw [u];exact i) l).ext e E D
   .exfalso;apply c;refine List.mem_append_right _ (List.mem_range'_1.2 ⟨by omega,?_⟩);simp only at v;omega
 .simp only;have:=n.ro;omega
 .exact n.zf
 .simp only at q;rw [d,zF (k g (by have:=n.zf;omega))] at l;obtain ⟨m,L⟩:=n.globs g o q l;exact ⟨m,st.ext.sub _ _ _ L⟩
 .rw [d,zF (k nm (by rw [<-z];exact f))]
 .have I:nm<F.next:=by rw [<-u];exact v
  have M:F.heap.get nm=none:=by
   cases A:F.heap.get nm with
   | none=>rfl
   | some o=>rw [r nm o A] at a;cases a
  obtain ⟨_,D,E⟩:=st.frame nm I M;refine ⟨?_,D,E⟩;rw [d];split
  .rename_i c;rcases List.mem_append.1 c with c | c
   .obtain ⟨x,t,rfl⟩:=List.mem_map.1 (List.mem_filter.1 c).1;rw [holds_of j (show (x.1,x.2) ∈ F.pre from t)] at a;cases a
   .have:=(List.mem_range'_1.1 c).1;omega
  .exact a
theorem Ext.keptBut {r:Nat} {G e:qe} {W w':World} (h:Ext r G W e w') (f:∀ nm g x,G nm g=some x->nm<r) (may:MemPlace->Prop):W.keptBut w' may:=by
 refine ⟨h.out.1,h.out.2,λi hi=>?_⟩;have j:w'.heap[i]? = W.heap[i]?:=by
  by_cases b:qjs G i
  .exact (h.frg i hi b).1
  .simp only [qjs,Classical.not_forall,Classical.not_not] at b;obtain ⟨nm,g,k,m,d⟩:=b;exact h.ro nm g i k m (f _ _ _ d) d
 rw [j];split
 .rename_i c a;rw [c] at a;cases a;exact ⟨rfl,rfl,rfl,λ_ _=>rfl⟩
 .rename_i c a;rw [c] at a;cases a;exact .inr ⟨rfl,rfl⟩
 .rfl
end
def qsu (P:Program):List Field->Nat->Nat->Bool
 | [],o,a=>Nat.beq o a
 | f::b,o,a=>Nat.beq f.offset o&&qsu P b (o+P.cellsOf f.type) a
def qlo (P:Program):Nat->TypeId->DataW Unit->Option (List Value)
 | 0,_,_=>none
 | n+1,t,d=>match P.underlying t,d with
  | some .bool,.lit (.bool b)=>some [.bool b]
  | some (.int _),.lit (.int k i)=>some [.int k i]
  | some .string,.lit (.string s)=>some [.string ⟨s.toArray⟩]
  | some (.struct c),.agg a=>bif qsu P c.toList 0 (P.cellsOf t)&&Nat.beq c.toList.length a.length then ((c.toList.zip a).mapM λx=>qlo P n x.1.type x.2).map List.flatten else none
  | some (.array m e),.agg a=>bif Nat.beq (P.cellsOf t) (m * P.cellsOf e)&&Nat.beq a.length m then (a.mapM (qlo P n e)).map List.flatten else none
  | _,_=>none
section
variable {P:Program} {w:World} {base:Nat} {spare:Nat->Bool} {held:Bool}
theorem qv0 {fuel n:Nat} {cs:List Value} (r:∀ t cs d p k,DataW.trod (λ_=>()) P w base spare held fuel t cs=some (d,p)->qlo P n t d=some k->cs=k) {e:Nat} (u:cs.length=e) :
  ∀ (c:List Field) (o:Nat) (ds:List (DataW Unit)) (j:List (DataW Unit×List MemPlace)) (a:List (List Value)),qsu P c o e=true->c.length=ds.length->
  (c.mapM λf=>DataW.trod (λ_=>()) P w base spare held fuel f.type ((cs.drop f.offset).take (P.cellsOf f.type)))=some j->j.map (·.1)=ds->((c.zip ds).mapM λx=>qlo P n x.1.type x.2)=some a->cs.drop o=a.flatten
 | [],o,ds,j,a,g,b,l,m,h=>by
  simp only [qsu,Nat.beq_eq] at g;simp only [List.zip_nil_left,List.mapM_nil,Option.pure_def,zS] at h;subst h;rw [List.drop_of_length_le (by omega)];rfl
 | f::c,o,ds,j,a,g,b,l,m,h=>by
  simp only [qsu,zA,Nat.beq_eq] at g;simp only [List.mapM_cons,Option.bind_eq_bind,zI,Option.pure_def,zS] at l;obtain ⟨⟨d,p⟩,v,q,y,rfl⟩:=l;simp only [List.map_cons] at m;subst m;simp only [List.zip_cons_cons,List.mapM_cons,Option.bind_eq_bind,zI,Option.pure_def,zS] at h;obtain ⟨k,z,i,A,rfl⟩:=h;have s:=r _ _ _ _ _ v z;have B:=qv0 r u c (o+P.cellsOf f.type) _ q i g.2 (by simpa using b) y rfl A;rw [g.1] at s;rw [List.flatten_cons,<-s,<-B,<-List.drop_drop,List.take_append_drop]
theorem qyn {fuel n:Nat} {cs:List Value} {e:TypeId} (r:∀ t cs d p j,DataW.trod (λ_=>()) P w base spare held fuel t cs=some (d,p)->qlo P n t d=some j->cs=j) :
  ∀ (l:List Nat) (o:Nat) (ds:List (DataW Unit)) (h:List (DataW Unit×List MemPlace)) (b:List (List Value)),l=List.range' o ds.length->cs.length=(o+ds.length) * P.cellsOf e->
  (l.mapM λi=>DataW.trod (λ_=>()) P w base spare held fuel e ((cs.drop (i * P.cellsOf e)).take (P.cellsOf e)))=some h->h.map (·.1)=ds->(ds.mapM (qlo P n e))=some b->cs.drop (o * P.cellsOf e)=b.flatten
 | [],o,ds,h,b,c,a,k,m,f=>by
  have:ds=[]:=by
   cases ds with
   | nil=>rfl
   | cons d ds=>simp [List.range'_succ] at c
  subst this;simp only [List.mapM_nil,Option.pure_def,zS] at f;subst f;rw [List.drop_of_length_le (by rw [a];simp)];rfl
 | i::l,o,ds,h,b,c,a,k,m,f=>by
  simp only [List.mapM_cons,Option.bind_eq_bind,zI,Option.pure_def,zS] at k;obtain ⟨⟨d,p⟩,s,q,u,rfl⟩:=k;simp only [List.map_cons] at m;subst m;simp only [List.length_cons,List.length_map,List.range'_succ,List.cons.injEq] at c;obtain ⟨rfl,c⟩:=c;simp only [List.mapM_cons,Option.bind_eq_bind,zI,Option.pure_def,zS] at f;obtain ⟨j,v,g,x,rfl⟩:=f;have y:=r _ _ _ _ _ s v;have z:=qyn r l (i+1) _ q g (by simpa using c) (by rw [a];congr 1;simp;omega) u rfl x;rw [List.flatten_cons,<-y,<-z,Nat.add_mul,Nat.one_mul,<-List.drop_drop,List.take_append_drop]
theorem que:∀ (n fuel:Nat) (t:TypeId) (cs:List Value) (d:DataW Unit) (p:List MemPlace) (g:List Value),DataW.trod (λ_=>()) P w base spare held fuel t cs=some (d,p)->qlo P n t d=some g->cs=g
 | 0,_,_,_,_,_,_,_,h=>by simp [qlo] at h
 | _+1,0,_,_,_,_,_,h,_=>by simp [DataW.trod] at h
 | n+1,fuel+1,t,cs,d,p,g,h,c=>by
  simp only [qlo] at c;split at c
  .rename_i b a;cases c
   match cs,h with
   | [],h=>simp [DataW.trod,a] at h
   | [v],h=>
    cases v<;>simp [DataW.trod,a] at h;rw [h.1]
   | v::u::l,h=>simp [DataW.trod,a] at h
  .rename_i D k i a;cases c
   match cs,h with
   | [],h=>simp [DataW.trod,a] at h
   | [v],h=>
    cases v<;>simp [DataW.trod,a] at h;obtain ⟨⟨r,_⟩,⟨j,B⟩,_⟩:=h;rw [r,j,B]
   | v::u::l,h=>simp [DataW.trod,a] at h
  .rename_i E a;cases c
   match cs,h with
   | [],h=>simp [DataW.trod,a] at h
   | [v],h=>
    cases v<;>simp [DataW.trod,a] at h;obtain ⟨_,j,_⟩:=h;rw [<-j]
   | v::u::l,h=>simp [DataW.trod,a] at h
  .rename_i C x a;simp only [DataW.trod,a] at h;split at h
   .rename_i y;obtain ⟨z,A,s⟩:=zM.1 h;simp only [zP,DataW.agg.injEq] at s;rw [cond_eq_ite] at c;split at c
    .rename_i f;simp only [zA,Nat.beq_eq] at f;obtain ⟨o,q,rfl⟩:=zM.1 c;have:=qv0 (λt cs d p g r j=>que n fuel t cs d p g r j) y C.toList 0 x z o f.1 f.2 A s.1 q;simpa using this
    .cases c
   .cases h
  .rename_i m e x a;simp only [DataW.trod,a] at h;split at h
   .rename_i y;obtain ⟨z,A,s⟩:=zM.1 h;simp only [zP,DataW.agg.injEq] at s;rw [cond_eq_ite] at c;split at c
    .rename_i f;simp only [zA,Nat.beq_eq] at f;obtain ⟨o,q,rfl⟩:=zM.1 c;have:=qyn (λt cs d p g r j=>que n fuel t cs d p g r j) (List.range m) 0 x z o (by rw [List.range_eq_range',f.2]) (by rw [y,f.1,f.2,Nat.zero_add]) A s.1 q;simpa using this
    .cases c
   .cases h
  .cases c
theorem zm5 {g n:Nat} (h:0<n):MemPlace.cell g 0 ∈ MemPlace.row ⟨g,0,none⟩ n:=by
 simp only [MemPlace.row,List.mem_map,List.mem_range];exact ⟨0,h,rfl⟩
theorem qrx:∀ {laid:List (String×DataW Unit)} {ps:List MemPlace} (_:DataW.LaidVars P w laid ps) (_:∀ b off,MemPlace.cell b off ∈ ps->∃ c t,w.heap[b]? = some (.cells c t (0,0))) {name:String} {d:DataW Unit} (_:(name,d) ∈ laid)
  {g:Nat} {t:TypeId} (_:P.globalNamed name=some g) (_:(P.globals[g]?).map (·.type)=some t) {n:Nat} {a:List Value} (_:qlo P n t d=some a) (_:a≠[]),∃ r,w.heap[g]? = some (.cells a.toArray r (0,0))
 | [],_,_,_,_,_,e,_,_,_,_,_,_,_,_=>by cases e
 | (F,d0)::rest,ps,A,s,name,d,e,g,t,k,u,n,a,v,f=>by
  obtain ⟨G,r,cs,fuel,p,q,x,y,j,B,C,rfl⟩:=A;rcases zD.1 e with l | e
  .cases l;rw [k] at x;cases x;rw [u] at y;cases y;have h:=que n fuel t cs.toList _ p a B v;simp only [World.var?,k,zB] at j;split at j
   .rename_i c D fz m;cases j;have i:0<cs.size:=by
     rcases Nat.eq_zero_or_pos cs.size with i | i
     .exfalso;apply f;rw [<-h];simpa using i
     .exact i
    obtain ⟨H,I,z⟩:=s g 0 (by
     refine List.mem_append_left _ (List.mem_append_left _ ?_);exact zm5 i)
    rw [m] at z;cases z;have o:cs=a.toArray:=by apply Array.ext';simpa using h
    rw [o] at m;exact ⟨_,m⟩
   .cases j
  .exact qrx C (λb off E=>s b off (List.mem_append_right _ E)) e k u v f
end
end Go.E2
/- E2: FACTS WHOSE NAMES MAY BE OTHERS: what one call comes to, written out with names of its own, and asked for under whatever names. -/
namespace Go.E2
open Go
def assoc:List (Nat×Nat)->Nat->Option Nat
 | [],_=>none
 | (a,b)::l,nm=>bif Nat.beq a nm then some b else assoc l nm
theorem qgr:∀ {l:List (Nat×Nat)} {a b:Nat},assoc l a=some b->(a,b) ∈ l
 | [],a,b,h=>by simp [assoc] at h
 | (c,d)::l,a,b,h=>by
  simp only [assoc,cond_eq_ite,Nat.beq_eq] at h;split at h
  .rename_i e;cases h;rw [e];exact zC
  .exact zG _ (qgr h)
def inv:List (Nat×Nat)->Nat->Option Nat
 | [],_=>none
 | (a,b)::l,k=>bif Nat.beq b k then some a else inv l k
theorem qlv:∀ {l:List (Nat×Nat)} {a b:Nat},inv l b=some a->(a,b) ∈ l
 | [],a,b,h=>by simp [inv] at h
 | (c,d)::l,a,b,h=>by
  simp only [inv,cond_eq_ite,Nat.beq_eq] at h;split at h
  .rename_i e;cases h;rw [e];exact zC
  .exact zG _ (qlv h)
theorem qta:∀ {l:List (Nat×Nat)} {b:Nat},inv l b=none->∀ a,(a,b) ∉ l
 | [],b,h,a,e=>by cases e
 | (c,d)::l,b,h,a,e=>by
  simp only [inv,cond_eq_ite,Nat.beq_eq] at h;split at h
  .cases h
  .rename_i f;rcases zD.1 e with g | e
   .cases g;exact f rfl
   .exact qta h a e
def qpr:List (Nat×Nat)->Bool
 | []=>true
 | (a,b)::l=>(l.all λx=>!Nat.beq a x.1&&!Nat.beq b x.2)&&qpr l
theorem qk8:∀ {l:List (Nat×Nat)},qpr l=true->∀ {a b k m:Nat},(a,b) ∈ l->(k,m) ∈ l->(a=k↔b=m)
 | [],_,a,b,k,m,h,_=>by cases h
 | (c,d)::l,o,a,b,k,m,h,p=>by
  simp only [qpr,zA,List.all_eq_true] at o;obtain ⟨q,r⟩:=o;have f:∀ x ∈ l,c≠x.1/\d≠x.2:=by
   intro x s;have:=q x s;simp only [Bool.not_eq_true'] at this;refine ⟨λj=>?_,λj=>?_⟩
   .rw [j] at this;have:=this.1;rw [<-Bool.not_eq_true,Nat.beq_eq] at this;exact this rfl
   .rw [j] at this;have:=this.2;rw [<-Bool.not_eq_true,Nat.beq_eq] at this;exact this rfl
  rcases zD.1 h with j | n
  .cases j;rcases zD.1 p with i | g
   .cases i;simp
   .exact ⟨λe=>absurd e (f _ g).1,λe=>absurd e (f _ g).2⟩
  .rcases zD.1 p with i | g
   .cases i;exact ⟨λe=>absurd e.symm (f _ n).1,λe=>absurd e.symm (f _ n).2⟩
   .exact qk8 r n g
theorem qjp {l:List (Nat×Nat)} (i:qpr l=true) {a b:Nat} (h:(a,b) ∈ l):assoc l a=some b:=by
 cases g:assoc l a with
 | none=>
  exfalso;have:∀ {l:List (Nat×Nat)},assoc l a=none->(a,b) ∉ l:=by
   intro l
   induction l with
   | nil=>intro _ e;cases e
   | cons x l j=>
    obtain ⟨c,d⟩:=x;intro f e;simp only [assoc,cond_eq_ite,Nat.beq_eq] at f;split at f
    .cases f
    .rename_i k;rcases zD.1 e with m | e
     .cases m;exact k rfl
     .exact j f e
  exact this g h
 | some n=>
  have:=qgr g;rw [(qk8 i this h).1 rfl]
theorem zcb {l:List (Nat×Nat)} (d:qpr l=true) {a b:Nat} (h:(a,b) ∈ l):inv l b=some a:=by
 cases c:inv l b with
 | none=>exact absurd h (qta c a)
 | some e=>
  have:=qlv c;rw [(qk8 d this h).2 rfl]
mutual
def qgo (m:Nat->Option Nat):V->Option V
 | .ptr nm g off lim=>(m nm).map λk=>.ptr k g off lim
 | .slice nm g off len sz cap=>(m nm).map λk=>.slice k g off len sz cap
 | .func (.func f) a c=>(qfj m a).bind λd=>(qfj m c).map λe=>.func (.func f) d e
 | .func ..=>none
 | .iface t v=>(qgo m v).map λh=>.iface t h
 | .agg l=>(qfj m l).map .agg
 | .tuple l=>(qfj m l).map .tuple
 | .map nm=>(m nm).map .map
 | .int k n=>some (.int k n)
 | .bool b=>some (.bool b)
 | .str s=>some (.str s)
 | .nilp=>some .nilp
 | .nils=>some .nils
 | .nilf=>some .nilf
 | .nili=>some .nili
 | .nilm=>some .nilm
def qfj (m:Nat->Option Nat):List V->Option (List V)
 | []=>some []
 | v::l=>(qgo m v).bind λa=>(qfj m l).map λb=>a::b
end
def zou (m:Nat->Option Nat):List (V×V×Nat)->Option (List (V×V×Nat))
 | []=>some []
 | (k,v,b)::l=>(qgo m k).bind λa=>(qgo m v).bind λc=>(zou m l).map λd=>(a,c,b)::d
def q15 (m:Nat->Option Nat):O->Option O
 | .row cells e g f z x=>(qfj m cells).map λc=>.row c e g f z x
 | .map d a=>(zou m d).map λb=>.map b a
 | _=>none
section
variable {m:Nat->Option Nat} {G1 G2:qe} {w:World}
mutual
theorem Rel.ren (hm:∀ nm k,m nm=some k->∀ g,G2 k g=G1 nm g):∀ {v b:V},qgo m v=some b->∀ {x:Value},Rel G1 w v x↔Rel G2 w b x
 | .int _ _,b,h,x | .bool _,b,h,x | .str _,b,h,x | .nilp,b,h,x | .nils,b,h,x | .nilf,b,h,x | .nili,b,h,x | .nilm,b,h,x=>by
  simp only [qgo,zS] at h;subst h;simp only [Rel]
 | .ptr nm g off lim,b,h,x=>by
  simp only [qgo,zM] at h;obtain ⟨k,n,rfl⟩:=h;simp only [Rel,hm nm k n]
 | .slice nm g off len sz cap,b,h,x=>by
  simp only [qgo,zM] at h;obtain ⟨k,n,rfl⟩:=h;simp only [Rel,hm nm k n]
 | .map nm,b,h,x=>by
  simp only [qgo,zM] at h;obtain ⟨k,n,rfl⟩:=h;simp only [Rel,hm nm k n]
 | .func A a c,b,h,x=>by
  cases A with
  | func f=>
   simp only [qgo,zI,zM] at h;obtain ⟨B,s,C,z,rfl⟩:=h;simp only [Rel,qlk];constructor
   .rintro ⟨j,o,p,d,e,q,r⟩;exact ⟨j,o,p,d,e,(qi.ren hm s).1 q,(qi.ren hm z).1 r⟩
   .rintro ⟨j,o,p,d,e,q,r⟩;exact ⟨j,o,p,d,e,(qi.ren hm s).2 q,(qi.ren hm z).2 r⟩
  | _=>simp [qgo] at h
 | .iface t v,b,h,x=>by
  simp only [qgo,zM] at h;obtain ⟨u,i,rfl⟩:=h;simp only [Rel];constructor
  .rintro ⟨y,d,e⟩;exact ⟨y,d,(Rel.ren hm i).1 e⟩
  .rintro ⟨y,d,e⟩;exact ⟨y,d,(Rel.ren hm i).2 e⟩
 | .agg l,b,h,x=>by
  simp only [qgo,zM] at h;obtain ⟨u,i,rfl⟩:=h;simp only [Rel];constructor
  .rintro ⟨y,d,e⟩;exact ⟨y,d,(qi.ren hm i).1 e⟩
  .rintro ⟨y,d,e⟩;exact ⟨y,d,(qi.ren hm i).2 e⟩
 | .tuple l,b,h,x=>by
  simp only [qgo,zM] at h;obtain ⟨u,i,rfl⟩:=h;simp only [Rel];constructor
  .rintro ⟨y,d,e⟩;exact ⟨y,d,(qi.ren hm i).1 e⟩
  .rintro ⟨y,d,e⟩;exact ⟨y,d,(qi.ren hm i).2 e⟩
theorem qi.ren (hm:∀ nm k,m nm=some k->∀ g,G2 k g=G1 nm g):∀ {l a:List V},qfj m l=some a->∀ {b:List Value},qi G1 w l b↔qi G2 w a b
 | [],a,h,b=>by
  simp only [qfj,zS] at h;subst h;simp only [qi]
 | v::l,a,h,b=>by
  simp only [qfj,zI,zM] at h;obtain ⟨n,i,o,j,rfl⟩:=h;simp only [qi];constructor
  .rintro ⟨x,c,d,e,f⟩;exact ⟨x,c,d,(Rel.ren hm i).1 e,(qi.ren hm j).1 f⟩
  .rintro ⟨x,c,d,e,f⟩;exact ⟨x,c,d,(Rel.ren hm i).2 e,(qi.ren hm j).2 f⟩
end
theorem zpz {v b:V} (h:qgo m v=some b):ZS v↔ZS b:=by
 cases v with
 | slice nm g off len sz cap=>
  simp only [qgo,zM] at h;obtain ⟨k,_,rfl⟩:=h;exact ⟨λ⟨_,_,_,_,_,h⟩=>(by cases h;exact ⟨_,_,_,_,_,rfl⟩),λ⟨_,_,_,_,_,h⟩=>(by cases h;exact ⟨_,_,_,_,_,rfl⟩)⟩
 | func d a c=>
  cases d with
  | func f=>
   simp only [qgo,zI,zM] at h;obtain ⟨_,_,_,_,rfl⟩:=h;exact ⟨λ⟨_,_,_,_,_,h⟩=>(by cases h),λ⟨_,_,_,_,_,h⟩=>(by cases h)⟩
  | _=>simp [qgo] at h
 | _=>
  simp only [qgo,zM,zS] at h
  first
  | (subst h;exact ⟨λ⟨_,_,_,_,_,h⟩=>(by cases h),λ⟨_,_,_,_,_,h⟩=>(by cases h)⟩)
  | (obtain ⟨_,_,rfl⟩:=h;exact ⟨λ⟨_,_,_,_,_,h⟩=>(by cases h),λ⟨_,_,_,_,_,h⟩=>(by cases h)⟩)
theorem zmf {v g:V} (h:qgo m v=some g):isHole v=isHole g:=by
 rw [Bool.eq_iff_iff,qrv,qrv];constructor
 .rintro ⟨u,rfl,e⟩;simp only [qgo,qfj,zM,zI] at h;obtain ⟨_,⟨i,b,_,j,rfl⟩,rfl⟩:=h;cases j;exact ⟨i,rfl,(zpz b).1 e⟩
 .rintro ⟨u,rfl,e⟩;cases v with
  | tuple l=>
   simp only [qgo,zM,V.tuple.injEq] at h;obtain ⟨us,b,rfl⟩:=h;cases l with
   | nil=>simp [qfj] at b
   | cons x l=>
    simp only [qfj,zI,zM,List.cons.injEq] at b;obtain ⟨y,k,o,d,rfl,rfl⟩:=b;cases l with
    | nil=>exact ⟨x,rfl,(zpz k).2 e⟩
    | cons _ _=>
     simp only [qfj,zI,zM] at d;obtain ⟨_,_,_,_,d⟩:=d;cases d
  | func n a c=>
   cases n with
   | func f=>
    simp only [qgo,zI,zM] at h;obtain ⟨_,_,_,_,h⟩:=h;cases h
   | _=>simp [qgo] at h
  | _=>simp [qgo] at h
theorem kl.ren (hm:∀ nm k,m nm=some k->∀ g,G2 k g=G1 nm g):∀ {l a:List V},qfj m l=some a->∀ {b:List Value},kl G1 w l b↔kl G2 w a b
 | [],a,h,b=>by
  simp only [qfj,zS] at h;subst h;simp only [kl]
 | v::l,a,h,b=>by
  simp only [qfj,zI,zM] at h;obtain ⟨n,c,o,j,rfl⟩:=h;simp only [kl,zmf c];constructor
  .rintro ⟨x,d,e,f,i⟩;exact ⟨x,d,e,f.imp id (Rel.ren hm c).1,(kl.ren hm j).1 i⟩
  .rintro ⟨x,d,e,f,i⟩;exact ⟨x,d,e,f.imp id (Rel.ren hm c).2,(kl.ren hm j).2 i⟩
theorem qa9.ren (hm:∀ nm k,m nm=some k->∀ g,G2 k g=G1 nm g):∀ {l a:List (V×V×Nat)},zou m l=some a->∀ {c:List MapEntry},qa9 G1 w l c↔qa9 G2 w a c
 | [],a,h,c=>by
  simp only [zou,zS] at h;subst h;simp only [qa9]
 | (k,v,b)::l,a,h,c=>by
  simp only [zou,zI,zM] at h;obtain ⟨r,o,s,p,t,q,rfl⟩:=h;simp only [qa9];constructor
  .rintro ⟨x,d,e,f,i,j,n⟩;exact ⟨x,d,e,(Rel.ren hm o).1 f,(Rel.ren hm p).1 i,j,(qa9.ren hm q).1 n⟩
  .rintro ⟨x,d,e,f,i,j,n⟩;exact ⟨x,d,e,(Rel.ren hm o).2 f,(Rel.ren hm p).2 i,j,(qa9.ren hm q).2 n⟩
theorem qwd:∀ {l a:List V},qfj m l=some a->a.length=l.length
 | [],a,h=>by simp only [qfj,zS] at h;subst h;rfl
 | v::l,a,h=>by
  simp only [qfj,zI,zM] at h;obtain ⟨c,d,e,b,rfl⟩:=h;simp [qwd b]
theorem q36:∀ {l a:List V} (n:Nat),qfj m l=some a->qfj m (l.take n)=some (a.take n)
 | [],a,n,h=>by simp only [qfj,zS] at h;subst h;simp [qfj]
 | v::l,a,0,h=>by simp [qfj]
 | v::l,a,n+1,h=>by
  simp only [qfj,zI,zM] at h;obtain ⟨d,b,e,c,rfl⟩:=h;simp [qfj,b,q36 n c]
theorem q35:∀ {l a:List V} (n:Nat),qfj m l=some a->qfj m (l.drop n)=some (a.drop n)
 | [],a,n,h=>by simp only [qfj,zS] at h;subst h;simp [qfj]
 | v::l,a,0,h=>by simpa using h
 | v::l,a,n+1,h=>by
  simp only [qfj,zI,zM] at h;obtain ⟨c,d,e,b,rfl⟩:=h;simpa using q35 n b
theorem qef.ren (hm:∀ nm k,m nm=some k->∀ g,G2 k g=G1 nm g) {nm k:Nat} (p:m nm=some k) {o q:O} (h:q15 m o=some q):qef G1 w nm o↔qef G2 w k q:=by
 cases o with
 | row cells e gen f z ex=>
  simp only [q15,zM] at h;obtain ⟨c,d,rfl⟩:=h;have a:∀ n i,∀ {b},kl G1 w ((cells.take n).drop i) b↔kl G2 w ((c.take n).drop i) b:=λn i=>kl.ren hm (q35 i (q36 n d));simp only [qef,hm nm k p,qwd d,a]
 | map r j=>
  simp only [q15,zM] at h;obtain ⟨c,d,rfl⟩:=h;have l:∀ {b},qa9 G1 w r b↔qa9 G2 w c b:=qa9.ren hm d;simp only [qef,hm nm k p,l]
 | _=>simp [q15] at h
end
def zd0 (ρ:List (Nat×Nat)) (a b:Nat):Option (List (Nat×Nat)):=match assoc ρ a with
 | some c=>bif Nat.beq c b then some ρ else none
 | none=>some ((a,b)::ρ)
mutual
def q55:V->V->List (Nat×Nat)->Option (List (Nat×Nat))
 | .ptr a _ _ _,.ptr b _ _ _,ρ | .map a,.map b,ρ=>zd0 ρ a b
 | .slice a _ _ n _ _,.slice b _ _ e _ _,ρ=>bif Nat.beq n e then zd0 ρ a b else none
 | .int _ a,.int _ b,ρ=>bif a == b then some ρ else none
 | .bool a,.bool b,ρ=>bif a == b then some ρ else none
 | .str a,.str b,ρ=>bif a == b then some ρ else none
 | .func _ a c,.func _ f g,ρ=>match quy a f ρ with
  | some h=>quy c g h
  | none=>none
 | .iface _ v,.iface _ i,ρ=>q55 v i ρ
 | .agg l,.agg d,ρ | .tuple l,.tuple d,ρ=>quy l d ρ
 | _,_,ρ=>some ρ
def quy:List V->List V->List (Nat×Nat)->Option (List (Nat×Nat))
 | v::l,a::b,ρ=>match q55 v a ρ with
  | some c=>quy l b c
  | none=>none
 | [],[],ρ=>some ρ
 | _,_,_=>none
end
def zm4:List (V×V×Nat)->List (V×V×Nat)->List (Nat×Nat)->Option (List (Nat×Nat))
 | (k,v,_)::l,(b,c,_)::d,ρ=>match q55 k b ρ with
  | some e=>match q55 v c e with
   | some a=>zm4 l d a
   | none=>none
  | none=>none
 | [],[],ρ=>some ρ
 | _,_,_=>none
def zwd:O->O->List (Nat×Nat)->Option (List (Nat×Nat))
 | .row c _ g _ _ _,.row b _ d _ _ _,ρ=>bif Nat.beq g d then quy c b ρ else none
 | .map e _,.map a _,ρ=>zm4 e a ρ
 | _,_,_=>none
def q9f (H:Heap):List (Nat×O)->List (Nat×Nat)->Option (List (Nat×Nat))
 | [],ρ=>some ρ
 | (nm,o)::l,ρ=>match assoc ρ nm with
  | some k=>match H.get k with
   | some a=>match zwd o a ρ with
    | some b=>q9f H l b
    | none=>none
   | none=>none
  | none=>none
def zrf:List (V×V×Nat)->List (V×V×Nat)->Bool
 | [],[]=>true
 | (k,v,b)::l,(a,c,d)::e=>qlj k a&&qlj v c&&Nat.beq b d&&zrf l e
 | _,_=>false
theorem zel:∀ {a b:List (V×V×Nat)},zrf a b=true->a=b
 | [],[],_=>rfl
 | (k,v,b)::l,(f,g,i)::j,h=>by
  simp only [zrf,zA,Nat.beq_eq] at h;obtain ⟨⟨⟨c,d⟩,rfl⟩,e⟩:=h;rw [qll c,qll d,zel e]
def q2w:O->O->Bool
 | .map b c,.map a d=>zrf b a&&Nat.beq c d
 | o,e=>zrg o e
theorem q8i {a b:O} (h:q2w a b=true):a=b:=by
 unfold q2w at h;split at h
 .simp only [zA,Nat.beq_eq] at h;rw [zel h.1,h.2]
 .exact zem h
def quk (m:Nat->Option Nat) (H:Heap) (l:List (Nat×O)):Bool:=
 l.all λx=>match m x.1,q15 m x.2 with
  | some k,some o=>match H.get k with
   | some a=>q2w o a
   | none=>false
  | _,_=>false
def q5u (H:Heap) (l:List (Nat×O)):Bool:=
 l.all λx=>match H.get x.1 with
  | some o=>q2w o x.2
  | none=>false
theorem zhz {H:Heap} {l:List (Nat×O)} (h:q5u H l=true) {k:Nat} {o:O} (a:(k,o) ∈ l):H.get k=some o:=by
 have:=List.all_eq_true.1 h (k,o) a;simp only at this;split at this
 .rename_i u b;rw [b,q8i this]
 .cases this
theorem qul {m:Nat->Option Nat} {H:Heap} {l:List (Nat×O)} (h:quk m H l=true) {nm:Nat} {o:O} (b:(nm,o) ∈ l):∃ k a,m nm=some k/\q15 m o=some a/\H.get k=some a:=by
 have:=List.all_eq_true.1 h (nm,o) b;simp only at this;split at this
 .rename_i k a c d;split at this
  .rename_i u e;exact ⟨k,a,c,d,by rw [e,q8i this]⟩
  .cases this
 .cases this
def Fact.names (F:Fact) (ρ:List (Nat×Nat)) (next:Nat) (nm:Nat):Option Nat:=
 bif Nat.ble F.next nm then (bif Nat.blt nm F.next' then some (nm-F.next+next) else none) else assoc ρ nm
def qqi (m:Nat->Option Nat):List (Nat×O)->Option (List (Nat×O))
 | []=>some []
 | (nm,o)::l=>(m nm).bind λk=>(q15 m o).bind λa=>(qqi m l).map λb=>(k,a)::b
theorem qwe {m:Nat->Option Nat}:∀ {l b:List (Nat×O)},qqi m l=some b->∀ {k:Nat} {c:O},(k,c) ∈ b->∃ nm o,(nm,o) ∈ l/\m nm=some k/\q15 m o=some c
 | [],b,h,k,c,a=>by simp only [qqi,zS] at h;subst h;cases a
 | (nm,o)::l,b,h,k,c,a=>by
  simp only [qqi,zI,zM] at h;obtain ⟨p,e,o1,f,q,g,rfl⟩:=h;rcases zD.1 a with i | a
  .cases i;exact ⟨nm,o,zC,e,f⟩
  .obtain ⟨d,o2,j,n⟩:=qwe g a;exact ⟨d,o2,zG _ j,n⟩
def Fact.zyk (F:Fact) (args:List V) (H:Heap):Option (List (Nat×Nat)):=
 match quy F.args args ((F.pre.filter λx=>Nat.blt x.1 F.zf).map λx=>(x.1,x.1)) with
 | some ρ=>q9f H F.pre ρ
 | none=>none
def Fact.fits (F:Fact) (ρ:List (Nat×Nat)) (args:List V) (H:Heap):Bool:=
 (match qfj (assoc ρ) F.args with
   | some a=>qwv a args
   | none=>false)&&Nat.beq H.zf F.zf&&quk (assoc ρ) H F.pre&&qpr ρ&&
 ρ.all λx=>Nat.blt x.1 F.next&&Nat.blt x.2 H.next&&(!Nat.blt x.1 F.zf || Nat.beq x.2 x.1)&&(!Nat.ble F.ro x.1 || Nat.ble H.ro x.2)
def Fact.qsx (F:Fact) (ρ:List (Nat×Nat)) (next:Nat):List Nat:=
 ((F.pre.filter λx=>Nat.ble F.ro x.1).filterMap λx=>assoc ρ x.1)++List.range' next (F.next'-F.next)
def Fact.qlh (F:Fact) (args:List V) (H:Heap):Option (CR×Heap):=
 match H with
 | ⟨t,n,r,g⟩=>
  match F.zyk args ⟨t,n,r,g⟩ with
  | some ρ=>bif F.fits ρ args ⟨t,n,r,g⟩ then
    (qgo (F.names ρ n) F.ret).bind λv=>(qqi (F.names ρ n) F.post).map λl=>(.ret v,⟨ke (qe7 l) (F.qsx ρ n) t,n+(F.next'-F.next),r,g⟩)
   else none
  | none=>none
def Fact.ok2 (F:Fact) (E:Env) (n:Nat):Bool:=
 match qax E n (.func F.f) F.args F.heap with
 | some (.ret v,H)=>qlj v F.ret&&Nat.beq H.next F.next'&&Nat.ble F.next F.next'&&Nat.ble F.ro F.next&&Nat.ble F.zf F.ro&&q5u H F.post
 | _=>false
theorem qkw {α:Type}:∀ {l:List (Nat×α)} {k:Nat} {v:α},(k,v) ∈ l->∃ b,(qe7 l).get k=some b
 | [],k,v,h=>by cases h
 | (c,b)::l,k,v,h=>by
  simp only [qe7,Tree.kv];by_cases a:k=c
  .rw [zT a];exact ⟨_,rfl⟩
  .rw [zF a];rcases zD.1 h with d | e
   .cases d;exact absurd rfl a
   .exact qkw e
section
variable {P:Program} {sp:Nat->Option (List V->Heap->Option (CR×Heap))} {n:Nat}
def qcs (G:qe) (ρ:List (Nat×Nat)):qe:=λnm g=>match assoc ρ nm with
 | some k=>G k g
 | none=>none
def qhe (G a:qe) (ρ:List (Nat×Nat)) (F:Fact) (next:Nat):qe:=λk g=>
 if k<next then (match inv ρ k with
  | some nm=>a nm g
  | none=>G k g) else if k-next+F.next<F.next' then a (k-next+F.next) g else none
structure Fits (F:Fact) (ρ:List (Nat×Nat)) (args:List V) (H:Heap):Prop where
 args:qfj (assoc ρ) F.args=some args
 zf:H.zf=F.zf
 pre:quk (assoc ρ) H F.pre=true
 one:qpr ρ=true
 lt:∀ a b,(a,b) ∈ ρ->a<F.next/\b<H.next
 same:∀ a b,(a,b) ∈ ρ->a<F.zf->b=a
 ro:∀ a b,(a,b) ∈ ρ->F.ro<=a->H.ro<=b
theorem zet {F:Fact} {ρ:List (Nat×Nat)} {args:List V} {H:Heap} (h:F.fits ρ args H=true):Fits F ρ args H:=by
 simp only [Fact.fits,zA,Nat.beq_eq,List.all_eq_true] at h;obtain ⟨⟨⟨⟨f,j⟩,k⟩,l⟩,m⟩:=h;have g:∀ a b,(a,b) ∈ ρ->(a<F.next/\b<H.next)/\(a<F.zf->b=a)/\(F.ro<=a->H.ro<=b):=by
  intro a b c;have:=m (a,b) c;simp only [Nat.blt_eq,Bool.or_eq_true,Bool.not_eq_true',Nat.beq_eq,Nat.ble_eq] at this;obtain ⟨⟨⟨n,o⟩,d⟩,e⟩:=this;refine ⟨⟨n,o⟩,λi=>?_,λi=>?_⟩
  .rcases d with d | d
   .rw [<-Bool.not_eq_true,Nat.blt_eq] at d;exact absurd i d
   .exact d
  .rcases e with e | e
   .rw [<-Bool.not_eq_true,Nat.ble_eq] at e;exact absurd i e
   .exact e
 refine ⟨?_,j,k,l,λa b c=>(g a b c).1,λa b c=>(g a b c).2.1,λa b c=>(g a b c).2.2⟩;split at f
 .rename_i u p;rw [p,qne f]
 .cases f
theorem qew {G:qe} {ρ:List (Nat×Nat)} {nm g:Nat} {x:Nat×Nat×Nat} (h:qcs G ρ nm g=some x):∃ k,(nm,k) ∈ ρ/\G k g=some x:=by
 unfold qcs at h;split at h
 .rename_i k a;exact ⟨k,qgr a,h⟩
 .cases h
theorem zak {F:Fact} {ρ:List (Nat×Nat)} {args:List V} {H:Heap} {G:qe} {w:World} (e:Sim H G w) (a:Fits F ρ args H) (i:F.ro<=F.next) (j:F.zf<=F.ro):Sim F.heap (qcs G ρ) w:=by
 have d:∀ nm k,assoc ρ nm=some k->∀ g,G k g=qcs G ρ nm g:=by
  intro nm k l g;simp only [qcs,l]
 refine ⟨λnm g b y n h=>?_,λnm g b y n z D A E h B=>?_,λnm o I p=>?_,i,j,λg o x p=>?_⟩
 .obtain ⟨k,q,r⟩:=qew h;exact ⟨(e.lt _ _ _ _ _ r).1,(a.lt _ _ q).1⟩
 .obtain ⟨k,q,r⟩:=qew h;obtain ⟨J,s,t⟩:=qew B;obtain ⟨c,f⟩:=e.inj _ _ _ _ _ _ _ _ _ r t;exact ⟨(qk8 a.one q s).2 c,f⟩
 .obtain ⟨k,u,c,f,v⟩:=qul a.pre (qby _ _ _ p);exact (qef.ren d c f).2 (e.obj k u (a.lt _ _ (qgr c)).2 v)
 .obtain ⟨k,u,c,f,v⟩:=qul a.pre (qby _ _ _ p);have l:=a.same _ _ (qgr c) x;subst l;obtain ⟨m,C⟩:=e.globs k u (by rw [a.zf];exact x) v;exact ⟨m,by rw [<-d k k c];exact C⟩
theorem Fact.zzj {F:Fact} {ρ:List (Nat×Nat)} {args:List V} {H H1:Heap} {G r:qe} {w w':World} (t:Sim H G w) (A:Fits F ρ args H) (hle:F.next<=F.next') (st:Step F.heap (qcs G ρ) w H1 r w') (hn:H1.next=F.next') (U:q5u H1 F.post=true)
  {l:List (Nat×O)} (hl:qqi (F.names ρ H.next) F.post=some l):Step H G w {H with qbq:=ke (qe7 l) (F.qsx ρ H.next) H.qbq,next:=H.next+(F.next'-F.next)} (qhe G r ρ F H.next) w'/\
   ∀ nm k,F.names ρ H.next nm=some k->∀ g,qhe G r ρ F H.next k g=r nm g:=by
 have u:∀ nm,({H with qbq:=ke (qe7 l) (F.qsx ρ H.next) H.qbq,next:=H.next+(F.next'-F.next)}:Heap).get nm=if nm ∈ F.qsx ρ H.next then (qe7 l).get nm else H.get nm:=λnm=>js _ _ _ _
 have a1:∀ nm k,F.names ρ H.next nm=some k->∀ g,qhe G r ρ F H.next k g=r nm g:=by
  intro nm k a g;simp only [Fact.names,cond_eq_ite,Nat.ble_eq,Nat.blt_eq] at a;split at a
  .rename_i c;split at a
   .rename_i J;cases a;have e1:¬ (nm-F.next+H.next<H.next):=by omega
    have e2:nm-F.next+H.next-H.next+F.next=nm:=by omega
    simp only [qhe,zF e1,e2,zT J]
   .cases a
  .have d:=qgr a;simp only [qhe,zT (A.lt _ _ d).2,zcb A.one d]
 have a6:∀ k nm,inv ρ k=some nm->(nm,k) ∈ ρ/\∀ g,qcs G ρ nm g=G k g:=by
  intro k nm h;have d:=qlv h;exact ⟨d,λg=>by simp only [qcs,qjp A.one d]⟩
 have N:∀ k g b e n,inv ρ k=none->G k g=some (b,e,n)->qjs (qcs G ρ) b:=by
  intro k g b e n a i aa Z B n' P;obtain ⟨k',s,j⟩:=qew P;obtain ⟨q3,_⟩:=t.inj _ _ _ _ _ _ _ _ _ i j;subst q3;exact qta a _ s
 have W:∀ k g b e n,inv ρ k=none->G k g=some (b,e,n)->w'.heap[b]? = w.heap[b]?:=λk g b e n a i=>(st.ext.frg b (t.lt _ _ _ _ _ i).1 (N k g b e n a i)).1;have K:∀ k g x,qhe G r ρ F H.next k g=some x->(k<H.next/\((∃ nm,inv ρ k=some nm/\r nm g=some x)∨(inv ρ k=none/\G k g=some x)))∨(H.next<=k/\k-H.next+F.next<F.next'/\r (k-H.next+F.next) g=some x):=by
  intro k g x h;simp only [qhe] at h;split at h
  .rename_i a;refine .inl ⟨a,?_⟩;split at h
   .rename_i nm C;exact .inl ⟨nm,C,h⟩
   .rename_i C;exact .inr ⟨C,h⟩
  .rename_i a;split at h
   .rename_i J;exact .inr ⟨by omega,J,h⟩
   .cases h
 have Q:∀ k,k ∈ F.qsx ρ H.next->(∃ nm o,(nm,o) ∈ F.pre/\F.ro<=nm/\(nm,k) ∈ ρ)∨(H.next<=k/\k<H.next+(F.next'-F.next)):=by
  intro k a;rcases List.mem_append.1 a with a | a
  .obtain ⟨x,v,ab⟩:=List.mem_filterMap.1 a;obtain ⟨ad,ae⟩:=List.mem_filter.1 v;exact .inl ⟨x.1,x.2,ad,by simpa using ae,qgr ab⟩
  .exact .inr (by have:=List.mem_range'_1.1 a;omega)
 have X:∀ nm k o,(nm,o) ∈ F.pre->F.ro<=nm->(nm,k) ∈ ρ->k ∈ F.qsx ρ H.next:=by
  intro nm k o c J R;refine List.mem_append_left _ (List.mem_filterMap.2 ⟨(nm,o),List.mem_filter.2 ⟨c,by simpa using J⟩,qjp A.one R⟩)
 have y:∀ k,k<H.ro->k ∉ F.qsx ρ H.next:=by
  intro k D E;rcases Q k E with ⟨nm,o,c,J,R⟩ | ⟨c,_⟩
  .have:=A.ro _ _ R J;omega
  .have:=t.ro;omega
 have S:∀ k g x,G k g=some x->qhe G r ρ F H.next k g=some x:=by
  intro k g x v;obtain ⟨b,e,m⟩:=x;have a:=(t.lt _ _ _ _ _ v).2;simp only [qhe,zT a];split
  .rename_i nm C;exact st.ext.sub _ _ _ (by rw [(a6 k nm C).2];exact v)
  .exact v
 have Y:∀ nm,F.heap.get nm=none∨∃ o,(nm,o) ∈ F.pre:=by
  intro nm;cases hq:F.heap.get nm with
  | none=>exact .inl rfl
  | some o=>exact .inr ⟨o,qby _ _ _ hq⟩
 have z:∀ k,k<H.next->k ∉ F.qsx ρ H.next->(∀ g x,qhe G r ρ F H.next k g=some x->G k g=some x)/\∀ g b e n,G k g=some (b,e,n)->w'.heap[b]? = w.heap[b]?:=by
  intro k a E;cases hq:inv ρ k with
  | none=>
   refine ⟨λg x v=>?_,λg b e m i=>W k g b e m hq i⟩;simp only [qhe,zT a,hq] at v;exact v
  | some nm=>
   obtain ⟨d,P⟩:=a6 k nm hq;have a7:∀ g,qhe G r ρ F H.next k g=r nm g:=λg=>by simp only [qhe,zT a,hq]
   rcases Y nm with p | ⟨o,L⟩
   .obtain ⟨_,j,q3⟩:=st.frame nm (A.lt _ _ d).1 p;exact ⟨λg x v=>by rw [<-P];exact q3 g x (by rw [<-a7];exact v),λg b e m i=>j g b e m (by rw [P];exact i)⟩
   .by_cases D:F.ro<=nm
    .exact absurd (X nm k o L D d) E
    .have D:nm<F.ro:=by omega
     exact ⟨λg x v=>by rw [<-P];exact st.newG nm g x (by rw [<-a7];exact v) D,λg b e m i=>st.ext.ro nm g b e m D (by rw [P];exact i)⟩
 have T:Ext H.ro G w (qhe G r ρ F H.next) w':=by
  refine ⟨S,λb hb a8=>?_,st.ext.size,st.ext.shp,λk g b e m D i=>?_,st.ext.out⟩
  .have af:qjs (qcs G ρ) b:=by
    intro nm g e m P;obtain ⟨k,_,j⟩:=qew P;exact a8 k g e m j
   obtain ⟨s,j⟩:=st.ext.frg b hb af;refine ⟨s,λk g e m i=>?_⟩;rcases K k g _ i with ⟨_,⟨nm,_,c⟩ | ⟨_,c⟩⟩ | ⟨_,_,c⟩
   .exact j _ _ _ _ c
   .exact a8 _ _ _ _ c
   .exact j _ _ _ _ c
  .exact (z k (t.lt _ _ _ _ _ i).2 (y k D)).2 g b e m i
 refine ⟨⟨T,⟨λk g b e m i=>?_,λk g b e m k' Z B m' i ag=>?_,λk o a L=>?_,?_,t.zf,λg o i L=>?_⟩,by simp only;omega,rfl,rfl,λk D=>?_,λk g x v D=>?_,λk a p=>?_⟩,a1⟩
 .rcases K k g _ i with ⟨a,⟨nm,_,c⟩ | ⟨_,c⟩⟩ | ⟨a,ah,c⟩
  .exact ⟨(st.sim.lt _ _ _ _ _ c).1,by simp only;omega⟩
  .exact ⟨zL (t.lt _ _ _ _ _ c).1 st.ext.size,by simp only;omega⟩
  .exact ⟨(st.sim.lt _ _ _ _ _ c).1,by simp only;omega⟩
 .have q:∀ {k nm g Z e B m m'},r nm g=some (b,e,m)->inv ρ k=none->G k Z=some (b,B,m')->False:=by
   intro k nm g Z e B m m' c J R;exact (st.ext.frg b (t.lt _ _ _ _ _ R).1 (N k Z b B m' J R)).2 _ _ _ _ c
  rcases K k g _ i with ⟨a,⟨nm,hi,c⟩ | ⟨hi,c⟩⟩ | ⟨a,ah,c⟩<;>rcases K k' Z _ ag with ⟨M,⟨aa,I,f⟩ | ⟨I,f⟩⟩ | ⟨M,ak,f⟩
  .obtain ⟨s,j⟩:=st.sim.inj _ _ _ _ _ _ _ _ _ c f;exact ⟨(qk8 A.one (qlv hi) (qlv I)).1 s,j⟩
  .exact (q c I f).elim
  .obtain ⟨s,j⟩:=st.sim.inj _ _ _ _ _ _ _ _ _ c f;have:=(A.lt _ _ (qlv hi)).1;omega
  .exact (q f hi c).elim
  .exact t.inj _ _ _ _ _ _ _ _ _ c f
  .exact (q f hi c).elim
  .obtain ⟨s,j⟩:=st.sim.inj _ _ _ _ _ _ _ _ _ c f;have:=(A.lt _ _ (qlv I)).1;omega
  .exact (q c I f).elim
  .obtain ⟨s,j⟩:=st.sim.inj _ _ _ _ _ _ _ _ _ c f;exact ⟨by omega,j⟩
 .rw [u] at L;split at L
  .obtain ⟨nm,o1,p1,p2,p3⟩:=qwe hl (qby _ _ _ L);have ai:nm<H1.next:=by
    rw [hn];simp only [Fact.names,cond_eq_ite,Nat.ble_eq,Nat.blt_eq] at p2;split at p2
    .split at p2
     .assumption
     .cases p2
    .have:=(A.lt _ _ (qgr p2)).1;omega
   exact (qef.ren a1 p2 p3).1 (st.sim.obj nm o1 ai (zhz U p1))
  .rename_i E;have M:k<H.next:=by
    by_cases aj:k<H.next
    .exact aj
    .exfalso;apply E;refine List.mem_append_right _ (List.mem_range'_1.2 ⟨by omega,?_⟩);simp only at a;exact a
   obtain ⟨s,j⟩:=z k M E;exact (t.obj k o M L).ext T s j
 .have:=t.ro;simp only;omega
 .simp only at i;rw [u,zF (y g (by have:=t.zf;omega))] at L;obtain ⟨m,hm⟩:=t.globs g o i L;exact ⟨m,S _ _ _ hm⟩
 .rw [u,zF (y k D)]
 .exact (z k (by have:=t.ro;omega) (y k D)).1 g x v
 .have E:k ∉ F.qsx ρ H.next:=by
   intro E;rcases Q k E with ⟨nm,o,c,J,R⟩ | ⟨c,_⟩
   .obtain ⟨k',o',s,j,q3⟩:=qul A.pre c;rw [qjp A.one R] at s;cases s;rw [p] at q3;cases q3
   .omega
  obtain ⟨s,j⟩:=z k a E;exact ⟨by rw [u,zF E];exact p,j,s⟩
theorem Fact.zxe {F:Fact} (L:qg5 P (qax (zj P sp) n)) {fn:Func} {c:Code} (M:P.funcs[F.f]? = some fn) (o:(fn.name == "runtime.NumGoroutine")=false) (N:fn.body=some c) (h:F.ok2 (zj P sp) n=true)
  {args:List V} {H H':Heap} {r:CR} (i:F.qlh args H=some (r,H')) {G:qe} {w:World} {a:Array Value} (J:Sim H G w) (O:qi G w args a.toList) {K:Fence} {m:Nat} (Q:qgq K) :
  CallsIn K m P F.f a w λe w'=>∃ s,Step H G w H' s w'/\qkl s w' r e:=by
 unfold Fact.qlh at i;obtain ⟨t,k,r0,g⟩:=H;simp only at i;split at i;rotate_left
 .cases i
 rename_i ρ _;simp only [cond_eq_ite] at i;split at i
 .rename_i b;have b:=zet b;simp only [zI,zM,zP] at i;obtain ⟨v',z,l,R,rfl,rfl⟩:=i;unfold Fact.ok2 at h;split at h
  .rename_i v H1 u;simp only [zA,Nat.beq_eq,Nat.ble_eq] at h;obtain ⟨⟨⟨⟨⟨S,T⟩,U⟩,W⟩,X⟩,Y⟩:=h;have Z:=qll S;subst Z;have A:=zak J b W X;have B:∀ nm C,assoc ρ nm=some C->∀ D,G C D=qcs G ρ nm D:=by
    intro nm C hk D;simp only [qcs,hk]
   have p:qi (qcs G ρ) w F.args a.toList:=(qi.ren B b.args).2 O;have d:(invoke (.fn (.func F.f) #[]) a).run P w=.ok (.enter F.f a) w:=by
    have h0:(invoke (.fn (.func F.f) #[]) a).run P w=(callFunc F.f (a++#[])).run P w:=rfl;rw [h0,Array.append_empty,qbt M o N]
   have q:CallsIn K m P F.f a w λe w'=>∃ s,Step F.heap (qcs G ρ) w H1 s w'/\qkl s w' (.ret F.ret) e:=by
    rcases L (.func F.f) F.args F.heap _ H1 u (qcs G ρ) w (.fn (.func F.f) #[]) a A ⟨#[],rfl,by simpa using p⟩ with ⟨x,w',s,v,j,_⟩ | ⟨f',y,j,h2⟩ | ⟨l,f',t',a',b',j,_⟩
    .rw [d] at j;cases j
    .rw [d] at j;cases j;exact h2 K m Q
    .rw [d] at j;cases j
   refine q.mono λe w' ⟨G1,st,se⟩=>?_;obtain ⟨E,I⟩:=Fact.zzj J b U st T Y R;obtain ⟨x,rfl,hx⟩:=se;exact ⟨_,E,x,rfl,(Rel.ren I z).1 hx⟩
  .cases h
 .cases i
def qqp:List Fact->Nat->List V->Heap->Option (CR×Heap)
 | [],_,_,_=>none
 | F::l,f,args,H=>bif Nat.beq F.f f then (match F.qlh args H with
   | some r=>some r
   | none=>qqp l f args H) else qqp l f args H
def qi7 (l:List Fact) (f:Nat):Option (List V->Heap->Option (CR×Heap)):=
 bif l.any (λF=>Nat.beq F.f f) then some (qqp l f) else none
theorem qn3:∀ {l:List Fact} (_:∀ F ∈ l,qan P F.f F.qlh) (f:Nat),qan P f (qqp l f)
 | [],_,f=>λargs H r H' a=>by simp [qqp] at a
 | F::l,b,f=>λargs H r H' a=>by
  simp only [qqp,cond_eq_ite] at a;split at a
  .rename_i e;rw [Nat.beq_eq] at e;subst e;split at a
   .rename_i g c;cases a;exact b F zC args H r H' c
   .exact qn3 (λd h=>b d (zG _ h)) F.f args H r H' a
  .exact qn3 (λd h=>b d (zG _ h)) f args H r H' a
theorem q20 (hm:P.follows .mixedOrders=true) (b:qnx P=true) {l:List Fact} (c:∀ F ∈ l,qan P F.f F.qlh) (k:Nat):qg5 P (qax (zj P (qi7 l)) k):=by
 refine qba hm (zt0 b) (zd8 b) (λf s a=>?_) k;unfold qi7 at a;rw [cond_eq_ite] at a;split at a
 .cases a;exact qn3 c f
 .cases a
theorem qct:∀ F ∈ ([]:List Fact),qan P F.f F.qlh:=λF h=>by cases h
theorem qaq {F:Fact} {l:List Fact} (h:qan P F.f F.qlh) (c:∀ F ∈ l,qan P F.f F.qlh):∀ a ∈ F::l,qan P a.f a.qlh:=by
 intro a b;rcases zD.1 b with rfl | b
 .exact h
 .exact c a b
theorem qcz (hm:P.follows .mixedOrders=true) (a:qnx P=true) {l:List Fact} (i:∀ F ∈ l,qan P F.f F.qlh) {F:Fact} (j:qnj (zj P λ_=>none) F.f=true) (h:F.ok2 (zj P (qi7 l)) n=true):qan P F.f F.qlh:=by
 intro args H r H' k G w b o p;obtain ⟨q,c,d,e,g⟩:=qrp j;exact ⟨q,c,d,e,g,λK m s=>Fact.zxe (q20 hm a i n) d e g h k o p s⟩
def Fact.q19 (F:Fact) (args:List V) (H:Heap):Option (CR×Heap):=
 bif F.fits (F.pre.map λx=>(x.1,x.1)) args H&&Nat.beq F.ro F.next&&qlj F.ret ((qgo (λ_=>none) F.ret).getD (.tuple [.nilp])) then some (.ret F.ret,H) else none
theorem Fact.zzi {F:Fact} {ρ:List (Nat×Nat)} {args:List V} {H H1:Heap} {G t:qe} {w w':World} (e:Sim H G w) (r:Fits F ρ args H) (l:F.ro=F.next) (st:Step F.heap (qcs G ρ) w H1 t w'):Step H G w H G w':=by
 have a:∀ k g b c n,G k g=some (b,c,n)->w'.heap[b]? = w.heap[b]?:=by
  intro k g b c n d;cases s:inv ρ k with
  | some nm=>
   have f:=qlv s;refine st.ext.ro nm g b c n (show nm<F.ro by rw [l];exact (r.lt _ _ f).1) ?_;simp only [qcs,qjp r.one f];exact d
  | none=>
   refine (st.ext.frg b (e.lt _ _ _ _ _ d).1 ?_).1;intro u C v D p;obtain ⟨E,x,q⟩:=qew p;obtain ⟨y,_⟩:=e.inj _ _ _ _ _ _ _ _ _ d q;subst y;exact qta s _ x
 have i:Ext H.ro G w G w':=by
  refine ⟨λ_ _ _ h=>h,λb z j=>⟨(st.ext.frg b z ?_).1,j⟩,st.ext.size,st.ext.shp,λk g b c m _ d=>a k g b c m d,st.ext.out⟩;intro nm g c m p;obtain ⟨k,_,q⟩:=qew p;exact j k g c m q
 exact ⟨i,⟨λk g b c m d=>⟨zL (e.lt _ _ _ _ _ d).1 st.ext.size,(e.lt _ _ _ _ _ d).2⟩,e.inj,λk o A B=>(e.obj k o A B).ext i (λ_ _ h=>h) (λg b c m d=>a k g b c m d),e.ro,e.zf,e.globs⟩,
  zN _,rfl,rfl,λ_ _=>rfl,λ_ _ _ h _=>h,λk _ h=>⟨h,λg b c m d=>a k g b c m d,λ_ _ h=>h⟩⟩
theorem Fact.zxd {F:Fact} (M:qg5 P (qax (zj P sp) n)) {fn:Func} {c:Code} (N:P.funcs[F.f]? = some fn) (j:(fn.name == "runtime.NumGoroutine")=false) (O:fn.body=some c) (h:F.ok2 (zj P sp) n=true)
  {args:List V} {H H':Heap} {r:CR} (q:F.q19 args H=some (r,H')) {G:qe} {w:World} {a:Array Value} (L:Sim H G w) (Q:qi G w args a.toList) {K:Fence} {m:Nat} (R:qgq K) :
  CallsIn K m P F.f a w λe w'=>∃ p,Step H G w H' p w'/\qkl p w' r e:=by
 unfold Fact.q19 at q;simp only [cond_eq_ite,zA,Nat.beq_eq] at q;split at q
 .rename_i B;obtain ⟨⟨b,C⟩,d⟩:=B;cases q;have b:=zet b;generalize (F.pre.map λx=>(x.1,x.1))=ρ at b;unfold Fact.ok2 at h;split at h
  .rename_i v H1 s;simp only [zA,Nat.beq_eq,Nat.ble_eq] at h;obtain ⟨⟨⟨⟨⟨S,c2⟩,c3⟩,T⟩,U⟩,c4⟩:=h;have W:=qll S;subst W;have D:=zak L b T U;have E:∀ nm I,assoc ρ nm=some I->∀ J,G I J=qcs G ρ nm J:=by
    intro nm I X J;simp only [qcs,X]
   have k:qi (qcs G ρ) w F.args a.toList:=(qi.ren E b.args).2 Q;have g:(invoke (.fn (.func F.f) #[]) a).run P w=.ok (.enter F.f a) w:=by
    have Y:(invoke (.fn (.func F.f) #[]) a).run P w=(callFunc F.f (a++#[])).run P w:=rfl;rw [Y,Array.append_empty,qbt N j O]
   have o:CallsIn K m P F.f a w λe w'=>∃ p,Step F.heap (qcs G ρ) w H1 p w'/\qkl p w' (.ret F.ret) e:=by
    rcases M (.func F.f) F.args F.heap _ H1 s (qcs G ρ) w (.fn (.func F.f) #[]) a D ⟨#[],rfl,by simpa using k⟩ with ⟨x,w',p,v,i,_⟩ | ⟨Z,y,i,h2⟩ | ⟨l,Z,t',a',b',i,_⟩
    .rw [g] at i;cases i
    .rw [g] at i;cases i;exact h2 K m R
    .rw [g] at i;cases i
   refine o.mono λe w' ⟨G1,st,se⟩=>?_;obtain ⟨x,rfl,z⟩:=se;refine ⟨G,Fact.zzi L b C st,x,rfl,?_⟩;cases A:qgo (λ_=>none) F.ret with
   | none=>
    rw [A] at d;have t:=qll d;simp only [Option.getD_none] at t;rw [t] at z ⊢;simp only [Rel,qi] at z ⊢;exact z
   | some u=>
    rw [A] at d;have t:=qll d;simp only [Option.getD_some] at t;rw [<-t] at A;exact (Rel.ren (m:=λ_=>none) (G2:=G) (λ_ _ h=>by cases h) A).1 z
  .cases h
 .cases q
theorem qy9 (hm:P.follows .mixedOrders=true) (a:qnx P=true) {l:List Fact} (i:∀ F ∈ l,qan P F.f F.qlh) {F:Fact} (j:qnj (zj P λ_=>none) F.f=true) (h:F.ok2 (zj P (qi7 l)) n=true):qan P F.f F.q19:=by
 intro args H r H' k G w b o p;obtain ⟨q,c,d,e,g⟩:=qrp j;exact ⟨q,c,d,e,g,λK m s=>Fact.zxd (q20 hm a i n) d e g h k o p s⟩
end
end Go.E2
/- E2: RUNS OF E2's THAT NEED SO MUCH AND NO MORE: rules for code, one after the other, for proofs about whatever arguments. -/
namespace Go.E2
open Go
def zxx (E:Env) (t:Tgt) (args:List V) (H:Heap) (y:CR×Heap):Prop:=∃ a,∀ k,a<=k->qax E k t args H=some y
def qc5 (E:Env) (t:Tgt) (args:List V) (H:Heap) (Q:V->Heap->Prop):Prop:=∃ v H',zxx E t args H (.ret v,H')/\Q v H'
def Wp (E:Env) (fn:FuncId) (round:Option Nat) (c:Code) (fr:Fr) (H:Heap) (Q:Ex->Fr->Heap->Prop):Prop:=
 ∃ x,(∃ a,∀ k,a<=k->zk E (qax E k) fn round (k+1) c fr H=some x)/\Q x.1 x.2.1 x.2.2
def WpO (E:Env) (a:Bool) (all:Array Oper) (l:List Oper) (fr:Fr) (H:Heap) (Q:Ex->Fr->Heap->Prop):Prop:=
 ∃ x,(∃ b,∀ k,b<=k->qhr E (qax E k) a all l fr H=some x)/\Q x.1 x.2.1 x.2.2
section
variable {E:Env} {fn:FuncId} {round:Option Nat} {nd:Bool} {all:Array Oper} {fr:Fr} {H:Heap} {Q:Ex->Fr->Heap->Prop}
theorem qc5.mono {t:Tgt} {args:List V} {Q a:V->Heap->Prop} (h:qc5 E t args H Q) (b:∀ v H',Q v H'->a v H'):qc5 E t args H a:=by
 obtain ⟨v,H',c,d⟩:=h;exact ⟨v,H',c,b _ _ d⟩
theorem Wp.mono {c:Code} {a:Ex->Fr->Heap->Prop} (h:Wp E fn round c fr H Q) (b:∀ ex fr' H',Q ex fr' H'->a ex fr' H'):Wp E fn round c fr H a:=by
 obtain ⟨x,d,e⟩:=h;exact ⟨x,d,b _ _ _ e⟩
theorem WpO.mono {l:List Oper} {a:Ex->Fr->Heap->Prop} (h:WpO E nd all l fr H Q) (b:∀ ex fr' H',Q ex fr' H'->a ex fr' H'):WpO E nd all l fr H a:=by
 obtain ⟨x,c,d⟩:=h;exact ⟨x,c,b _ _ _ d⟩
theorem ztq (h:Q .normal fr H):Wp E fn round .skip fr H Q:=⟨(.normal,fr,H),⟨0,λ_ _=>rfl⟩,h⟩
theorem zpk {l:Nat} (h:Q .normal fr H):Wp E fn round (.label l) fr H Q:=⟨(.normal,fr,H),⟨0,λ_ _=>rfl⟩,h⟩
theorem zpm (h:Q .ret fr H):Wp E fn round .ret fr H Q:=⟨(.ret,fr,H),⟨0,λ_ _=>rfl⟩,h⟩
theorem zto {id:Nat} (h:Q (.exit id) fr H):Wp E fn round (.exit id) fr H Q:=⟨(.exit id,fr,H),⟨0,λ_ _=>rfl⟩,h⟩
def q4i (next:Fr->Heap->Prop) (Q:Ex->Fr->Heap->Prop):Ex->Fr->Heap->Prop
 | .normal,fr,H=>next fr H
 | e,fr,H=>Q e fr H
theorem q09 {a b:Code} (h:Wp E fn round a fr H (q4i (λfr' H'=>Wp E fn round b fr' H' Q) Q)):Wp E fn round (.seq a b) fr H Q:=by
 obtain ⟨⟨e,fr',H'⟩,⟨c,d⟩,f⟩:=h;cases e with
 | normal=>
  obtain ⟨x,⟨i,j⟩,l⟩:=f;exact ⟨x,⟨max c i,λk g=>by simp only [zk,d k (by omega),j k (by omega)]⟩,l⟩
 | _=>exact ⟨_,⟨c,λk g=>by simp only [zk,d k g]⟩,f⟩
theorem ztn {c:Operand} {a b:Code} {t:Bool} (d:opd fr H c=some (.bool t)) (h:Wp E fn round (if t then a else b) fr H Q):Wp E fn round (.cond c a b) fr H Q:=by
 obtain ⟨x,⟨e,f⟩,g⟩:=h;refine ⟨x,⟨e,λk i=>?_⟩,g⟩;have:=f k i;cases t<;>simp only [zk,d]<;>exact this
def qrg (id:Nat) (Q:Ex->Fr->Heap->Prop):Ex->Fr->Heap->Prop
 | .exit a,fr,H=>if a=id then Q .normal fr H else Q (.exit a) fr H
 | e,fr,H=>Q e fr H
theorem zpj {id:Nat} {c:Code} (h:Wp E fn round c fr H (qrg id Q)):Wp E fn round (.block id c) fr H Q:=by
 obtain ⟨⟨e,fr',H'⟩,⟨g,i⟩,d⟩:=h;cases e with
 | exit a=>
  simp only [qrg] at d;by_cases b:a=id
  .rw [zT b] at d;subst b;have j:Nat.beq a a=true:=by rw [Nat.beq_eq]
   exact ⟨(.normal,fr',H'),⟨g,λk f=>by simp only [zk,i k f,j,zO]⟩,d⟩
  .rw [zF b] at d;have j:Nat.beq a id=false:=by
    cases l:Nat.beq a id with
    | false=>rfl
    | true=>exact absurd (zE l) b
   exact ⟨(.exit a,fr',H'),⟨g,λk f=>by simp only [zk,i k f,j,zQ]⟩,d⟩
 | _=>exact ⟨_,⟨g,λk f=>by simp only [zk,i k f]⟩,d⟩
theorem zpn {c:Code} (h:Wp E fn round c fr H (λe fr' H'=>(∀ l,e≠.goto l)/\Q e fr' H')):Wp E fn round (.scope c) fr H Q:=by
 obtain ⟨⟨e,fr',H'⟩,⟨a,b⟩,d,f⟩:=h;refine ⟨(e,fr',H'),⟨a,λk g=>?_⟩,f⟩;simp only [zk,b k g]
 all_goals first
  | rfl
  | (cases e with
   | goto l=>exact absurd rfl (d l)
   | _=>rfl)
theorem qxi {c:Code} (Inv:Nat->Fr->Heap->Prop) {m:Nat} (p:Inv m fr H)
  (h:∀ m fr H,Inv m fr H->Wp E fn round c fr H (q4i (λfr' H'=>∃ b,b<m/\Inv b fr' H') Q)):Wp E fn round (.loop c) fr H Q:=by
 have j:∀ (m:Nat) (fr:Fr) (H:Heap) (o:Ex),Inv m fr H->∃ x,(∃ a r,∀ k,a<=k->∀ f,r<f->iter (λ(s:Ex×Fr×Heap)=>match zk E (qax E k) fn round (k+1) c s.2.1 s.2.2 with
   | some (.normal,fr',H')=>some (true,.normal,fr',H')
   | some r=>some (false,r)
   | none=>none) f (o,fr,H)=some x)/\Q x.1 x.2.1 x.2.2:=by
  intro m
  induction m using Nat.strongRecOn with
  | _ m q=>
   intro fr H o hi;obtain ⟨⟨e,fr',H'⟩,⟨a,d⟩,i⟩:=h m fr H hi;cases e with
   | normal=>
    obtain ⟨b,t,l⟩:=i;obtain ⟨x,⟨u,r,v⟩,w⟩:=q b t fr' H' .normal l;refine ⟨x,⟨max a u,r+1,λk n f y=>?_⟩,w⟩;obtain ⟨f,rfl⟩:∃ g,f=g+1:=⟨f-1,by omega⟩;simp only [iter,d k (by omega)];exact v k (by omega) f (by omega)
   | _=>
    refine ⟨_,⟨a,0,λk n f y=>?_⟩,i⟩;obtain ⟨f,rfl⟩:∃ g,f=g+1:=⟨f-1,by omega⟩;simp only [iter,d k n]
 obtain ⟨x,⟨a,r,d⟩,i⟩:=j m fr H .normal p;exact ⟨x,⟨max a r,λk n=>by simp only [zk];exact d k (by omega) (k+1) (by omega)⟩,i⟩
theorem q4m {id:Nat} {ops:Array Oper} (h:WpO E round.isNone ops ops.toList fr H Q):Wp E fn round (.region id ops false) fr H Q:=by
 obtain ⟨x,⟨a,b⟩,c⟩:=h;exact ⟨x,⟨a,λk d=>by simp only [zk,zQ];exact b k d⟩,c⟩
theorem zgm (h:Q .normal fr H):WpO E nd all [] fr H Q:=⟨(.normal,fr,H),⟨0,λ_ _=>rfl⟩,h⟩
def qlx (o:Oper):Bool:=match o.op with | .defer _=>true | _=>false
theorem qqk {call:Call} {o:Oper} {l:List Oper} (b:qlx o=false):qhr E call nd all (o::l) fr H=match qft E call all o fr H with
   | some (.ret v,H')=>qhr E call nd all l (fr.put o.dst v) H'
   | some (.panic a,H')=>some (.panic a,fr,H')
   | none=>none:=by
 rfl
theorem qke {o:Oper} {l:List Oper} {v:V} {H':Heap} (a:qlx o=false) (hw:qdh o all fr=some true) (h:kc E o fr H=some (.val v,H')) (k:WpO E nd all l (fr.put o.dst v) H' Q):WpO E nd all (o::l) fr H Q:=by
 obtain ⟨x,⟨b,c⟩,d⟩:=k;exact ⟨x,⟨b,λk e=>by rw [qqk a];simp only [qft,hw,h];exact c k e⟩,d⟩
theorem q1e {o:Oper} {l:List Oper} {H':Heap} (a:qlx o=false) (hw:qdh o all fr=some true) (h:kc E o fr H=some (.skip,H')) (k:WpO E nd all l (fr.put o.dst je) H' Q):WpO E nd all (o::l) fr H Q:=by
 obtain ⟨x,⟨b,c⟩,d⟩:=k;exact ⟨x,⟨b,λk e=>by rw [qqk a];simp only [qft,hw,h];exact c k e⟩,d⟩
theorem zts {o:Oper} {l:List Oper} (a:qlx o=false) (hw:qdh o all fr=some false) (k:WpO E nd all l (fr.put o.dst je) H Q):WpO E nd all (o::l) fr H Q:=by
 obtain ⟨x,⟨b,c⟩,d⟩:=k;exact ⟨x,⟨b,λk e=>by rw [qqk a];simp only [qft,hw];exact c k e⟩,d⟩
theorem zpw {o:Oper} {l:List Oper} {t:Tgt} {args:List V} {H1:Heap} (a:qlx o=false) (hw:qdh o all fr=some true) (h:kc E o fr H=some (.call t args,H1))
  (k:qc5 E t args H1 λv H'=>WpO E nd all l (fr.put o.dst v) H' Q):WpO E nd all (o::l) fr H Q:=by
 obtain ⟨v,H',⟨b,c⟩,⟨x,⟨d,e⟩,f⟩⟩:=k;refine ⟨x,⟨max d b,λk g=>?_⟩,f⟩;rw [qqk a];simp only [qft,hw,h,c k (by omega)];exact e k (by omega)
theorem qnc {f:Nat} {args:List V} {s:List V->Heap->Option (CR×Heap)} {v:V} {H':Heap} {Q:V->Heap->Prop} (a:E.spec f=some s) (h:s args H=some (.ret v,H')) (b:Q v H'):qc5 E (.func f) args H Q:=
 ⟨v,H',⟨1,λk c=>by
  obtain ⟨k,rfl⟩:∃ g,k=g+1:=⟨k-1,by omega⟩;simp only [qax,a,h]⟩,b⟩
def qed:List Dfr->Heap->Option Heap
 | [],H=>some H
 | .mark nm::a,H=>match H.get nm with
  | some .dfr=>(H.upd nm .gone).bind λH'=>qed a H'
  | _=>none
theorem qv4 {call:Call} {fuel:Nat} {md:Md}:∀ {a:List Dfr} {H H':Heap},qed a H=some H'->leave E call fuel a md H=some (md,H')
 | [],H,H',h=>by simp only [qed,zS] at h;simp [leave,h]
 | .mark nm::a,H,H',h=>by
  simp only [qed] at h;simp only [leave];split at h
  .rename_i b;rw [b];simp only [zI] at h ⊢;obtain ⟨H1,c,d⟩:=h;exact ⟨H1,c,qv4 d⟩
  .cases h
theorem qx9 {f:Nat} {b:FI} {c:Code} {args:List V} {Q:V->Heap->Prop} (j:E.spec f=none) (l:E.funcs f=some b) (m:b.body=some c)
  (h:Wp E f none c {tmps:=qgs args,n:=max args.length b.ntmps,defers:=[]} H λe fr' H'=>(e=.normal∨e=.ret)/\∃ a,qed fr'.defers H'=some a/\∃ d,jo E fr' a b.results=some d/\Q (oneOf d) a):qc5 E (.func f) args H Q:=by
 obtain ⟨⟨e,fr',H'⟩,⟨o,p⟩,q,a,r,d,s,t⟩:=h;refine ⟨oneOf d,a,⟨o+1,λk v=>?_⟩,t⟩;obtain ⟨k,rfl⟩:∃ g,k=g+1:=⟨k-1,by omega⟩;have i:q68 E (qax E k) (k+1) (e,fr',H')=some (.returning,fr',a):=by
  have u:=qv4 (E:=E) (call:=qax E k) (fuel:=k+1) (md:=.returning) r;rcases q with rfl | rfl<;>simp [q68,u]
 simp only [qax,j,l,m,zB,p k (by omega),i,qs7,s,zH]
theorem q2q {f:Nat} {a:FI} {args:List V} {v:V} {Q:V->Heap->Prop} (b:E.spec f=none) (c:E.funcs f=some a) (d:a.body=none) (h:zhu a.ext args=some v) (e:Q v H):qc5 E (.func f) args H Q:=
 ⟨v,H,⟨1,λk i=>by
  obtain ⟨k,rfl⟩:∃ g,k=g+1:=⟨k-1,by omega⟩;simp only [qax,b,c,d,zB,h,zH]⟩,e⟩
structure Upd (fr:Fr) (d:Nat) (v:V) (fr':Fr):Prop where
 get:fr'.tmp d=some v
 other:∀ j,Nat.beq j d=false->fr'.tmp j=fr.tmp j
 n:fr'.n=fr.n
 ds:fr'.defers=fr.defers
theorem qtn {d:Nat} {v:V} (h:d<fr.n):Upd fr d v (fr.put (some d) v):=by
 obtain ⟨t,n,f⟩:=fr;have a:Nat.blt d n=true:=by rw [Nat.blt_eq];exact h
 refine ⟨?_,λj b=>?_,?_,?_⟩
 .simp only [Fr.put,a,zO,Fr.tmp,Tree.kv,if_true]
 .have c:¬ j=d:=by
   intro e;rw [e] at b;have:Nat.beq d d=true:=by rw [Nat.beq_eq]
   rw [this] at b;cases b
  simp only [Fr.put,a,zO,Fr.tmp,Tree.kv,zF c]
 .simp only [Fr.put,a,zO]
 .simp only [Fr.put,a,zO]
theorem qkk {o:Oper} (a:o.guard=none):qdh o all fr=some true:=by simp only [qdh,a]
theorem zgj {o:Oper} {j d:Nat} {want b:Bool} (a:o.guard=some (j,want)) (c:(all[j]?).bind (·.dst)=some d) (e:fr.tmp d=some (.bool b)):qdh o all fr=some (b == want):=by
 simp only [qdh,a,c,e]
theorem zdp {o:Oper} {j d:Nat} {want:Bool} (a:o.guard=some (j,want)) (b:(all[j]?).bind (·.dst)=some d) (c:fr.tmp d=some je):qdh o all fr=some false:=by
 simp only [qdh,a,b,c,je]
theorem zxu {o:Oper} {l:List Oper} {v:V} {H':Heap} {d:Nat} (b:qlx o=false) (hw:qdh o all fr=some true) (a:o.dst=some d) (c:d<fr.n) (h:kc E o fr H=some (.val v,H')) (k:∀ fr',Upd fr d v fr'->WpO E nd all l fr' H' Q):WpO E nd all (o::l) fr H Q:=
 qke b hw h (by rw [a];exact k _ (qtn c))
theorem qho {t:Nat} {v:V} (h:fr.tmp t=some v):opd fr H (.tmp t)=some v:=h
theorem zio {c:Value} {v:V} (h:qoq 1000 c=some v):opd fr H (.const c)=some v:=h
theorem znp:qcy fr H []=some []:=rfl
theorem qu3 {x:Operand} {l:List Operand} {v:V} {a:List V} (h:opd fr H x=some v) (b:qcy fr H l=some a):qcy fr H (x::l)=some (v::a):=by
 simp only [qcy,h,b,zB,zH]
section
variable {o:Oper}
theorem zen {x:Operand} {v:V} (a:o.op=.move x) (b:opd fr H x=some v):kc E o fr H=some (.val v,H):=by simp only [kc,a,b,zH]
theorem q2y {x:Operand} {v:V} (a:o.op=.assign x) (b:opd fr H x=some v):kc E o fr H=some (.val v,H):=by simp only [kc,a,b,zH]
theorem zin {x:Operand} {v:V} (h:opd fr H x=some v):qmi fr H (some x)=some (some v):=by simp only [qmi,h,zH]
theorem q7w {lo hi d:Nat} {k:IntKind} {i:Int} (h:(lo:Int)<=i/\i<=hi):qao lo hi (some (.int k i)) d=some i.toNat:=by simp only [qao,h,and_self,if_true]
end
theorem zs5:jo E fr H []=some []:=rfl
theorem zs6 {t:Nat} {v:V} {rs:List ResultVar} {a:List V} (h:fr.tmp t=some v) (b:jo E fr H rs=some a):jo E fr H (.tmp t::rs)=some (v::a):=by
 simp only [jo,h,b,zB,zH]
theorem ends {rs:List ResultVar} {b:List V} {R:V->Heap->Prop} (c:fr.defers=[]) (d:jo E fr H rs=some b) (h:R (oneOf b) H):∃ a,qed fr.defers H=some a/\∃ b,jo E fr a rs=some b/\R (oneOf b) a:=
 ⟨H,by rw [c];rfl,b,d,h⟩
theorem zx4 (a:fr.defers=[]):qed fr.defers H=some H:=by rw [a];rfl
theorem zaw {next:Fr->Heap->Prop} (h:next fr H):q4i next Q .normal fr H:=h
theorem q7v {id id':Nat} (a:¬ id'=id) (h:Q (.exit id') fr H):qrg id Q (.exit id') fr H:=by
 simp only [qrg,zF a];exact h
theorem zbw {id:Nat} (h:Q .normal fr H):qrg id Q (.exit id) fr H:=by
 simp only [qrg,if_true];exact h
theorem qcu {t:Nat} {l:List Nat} (h:t ∈ l):({fr with tmps:=ke fr.tmps l .nil}:Fr).tmp t=fr.tmp t:=by
 simp only [Fr.tmp,js,h,if_true]
theorem qsb {o:Oper}:qdh o all {fr with tmps:=ke fr.tmps (o.looksAt all) .nil}=qdh o all fr:=by
 unfold qdh;split
 .rfl
 .rename_i j a b;split
  .rfl
  .rename_i d c;rw [qcu];simp [Oper.looksAt,b,c]
def zl (b:Array Nat) (i:Nat) (done:List Done):List Done:=done.filter λd=>!(b.getD i 0).testBit d.i
theorem qri {d:Done} {l:List Nat}:qcp d l .none=false:=by
 obtain ⟨i,fp,lo,hi,a⟩:=d;cases fp<;>rfl
theorem qkz {dels:List Nat}:qb4 H (zo H .none dels) .none dels=H:=by
 simp only [qb4,zo,Nat.sub_self,List.range'_zero,ke]
theorem q7y {P:Program} {sp:Nat->Option (List V->Heap->Option (CR×Heap))} (hm:P.follows .mixedOrders=true) (d:qnx P=true) (j:∀ f s,sp f=some s->qan P f s) {f:FuncId} {g:Func} {c:Code} (l:P.funcs[f]? = some g) (b:(g.name == "runtime.NumGoroutine")=false) (m:g.body=some c)
  {args:List V} {a:Array Value} {G:qe} {W:World} {R:V->Heap->Prop} (n:Sim H G W) (o:qi G W args a.toList) (h:qc5 (zj P sp) (.func f) args H R) :
  Calls P f a W λe w'=>∃ v H' x i,R v H'/\e=.returned x/\Rel i w' v x/\Step H G W H' i w':=by
 obtain ⟨v,H',⟨k,p⟩,q⟩:=h;have r:qg5 P (qax (zj P sp) k):=qba hm (zt0 d) (zd8 d) j k;refine (r.calls l b m (p k (zN _)) n o).mono λe w' ⟨i,st,t⟩=>?_;obtain ⟨x,rfl,u⟩:=t;exact ⟨v,H',x,i,q,rfl,u,st⟩
theorem q2v {args:List V} {n:Nat} {a:List Dfr} {i:Nat} {v:V} (h:args[i]? = some v):({tmps:=qgs args,n:=n,defers:=a}:Fr).tmp i=some v:=by
 simp only [Fr.tmp,qgs,Tree.qrq,h]
def WpD (E:Env) (all:Array Oper) (b:Array Nat) (i:Nat) (l:List Oper) (done:List Done) (fr:Fr) (H:Heap) (Q:Ex->Fr->Heap->Prop):Prop:=
 ∃ x:Fr×Heap,(∃ a,∀ k,a<=k->qc6 E (qax E k) all b i l done fr H=some x)/\Q .normal x.1 x.2
theorem za1 {id:Nat} {ops:Array Oper} (h:WpD E ops (Region.before ops) 0 ops.toList [] fr H Q):Wp E fn round (.region id ops true) fr H Q:=by
 obtain ⟨x,⟨a,b⟩,c⟩:=h;exact ⟨(.normal,x.1,x.2),⟨a,λk d=>by simp only [zk,zO,b k d,zH]⟩,c⟩
section
variable {b:Array Nat} {i:Nat} {l:List Oper} {done:List Done} {o:Oper}
theorem zgk (h:Q .normal fr H):WpD E all b i [] done fr H Q:=⟨(fr,H),⟨0,λ_ _=>rfl⟩,h⟩
theorem qcl {fp:FP} {out:Out} {v:V} {K:Heap} (hw:qdh o all fr=some true) (f:qha E o fr=fp) (g:fp≠.call) (h:((zl b i done).any λd=>qcp d ((zl b i done).flatMap Done.names) fp)=false)
  (j:kc E o {fr with tmps:=ke fr.tmps (o.looksAt all) .nil} (zo H fp ((zl b i done).flatMap Done.names))=some (out,K)) (a:out=.val v∨(out=.skip/\v=je)) (n:H.next<=K.next)
  (k:WpD E all b (i+1) l (⟨i,fp,H.next,K.next,(zl b i done).flatMap Done.names⟩::done) (fr.put o.dst v) (qb4 H K fp ((zl b i done).flatMap Done.names)) Q):WpD E all b i (o::l) done fr H Q:=by
 obtain ⟨x,⟨p,q⟩,r⟩:=k;refine ⟨x,⟨p,λk s=>?_⟩,r⟩;have t:Nat.blt K.next H.next=false:=by
  rw [<-Bool.not_eq_true,Nat.blt_eq];omega
 have u:qft E (qax E k) all o {fr with tmps:=ke fr.tmps (o.looksAt all) .nil} (zo H fp ((zl b i done).flatMap Done.names))=some (.ret v,K):=by
  rcases a with rfl | ⟨rfl,rfl⟩<;>simp only [qft,qsb,hw,j]
 have c:((done.filter λd=>!(b.getD i 0).testBit d.i).any λd=>qcp d ((done.filter λd=>!(b.getD i 0).testBit d.i).flatMap Done.names) fp)=false:=h;have m:qft E (qax E k) all o {fr with tmps:=ke fr.tmps (o.looksAt all) .nil} (zo H fp ((done.filter λd=>!(b.getD i 0).testBit d.i).flatMap Done.names))=some (.ret v,K):=u;have e:=q k s;simp only [zl] at e;simp only [qc6,hw,zB,zO,f];cases fp with
 | call=>exact absurd rfl g
 | _=>simp only [c,zQ,m,t];exact e
theorem zpv (hw:qdh o all fr=some false) (k:WpD E all b (i+1) l (⟨i,.none,H.next,H.next,(zl b i done).flatMap Done.names⟩::done) (fr.put o.dst je) H Q):WpD E all b i (o::l) done fr H Q:=by
 obtain ⟨x,⟨f,g⟩,h⟩:=k;refine ⟨x,⟨f,λk j=>?_⟩,h⟩;have a:∀ (l:List Done) (dels:List Nat),(l.any λd=>qcp d dels .none)=false:=by
  intro l dels;rw [<-Bool.not_eq_true,List.any_eq_true];rintro ⟨d,_,e⟩;rw [qri] at e;cases e
 have m:Nat.blt H.next H.next=false:=by
  rw [<-Bool.not_eq_true,Nat.blt_eq];omega
 have c:∀ dels,(zo H .none dels).next=H.next:=λdels=>rfl
 simp only [qc6,hw,zB,zQ,a,qft,qsb,qkz,c,m];exact g k j
def Calm (B:Nat) (done:List Done):Prop:=∀ d ∈ done,(d.fp=.none∨∃ l,d.fp=.reads l)/\B<=d.lo
theorem zle {B:Nat}:Calm B []:=λd h=>by cases h
theorem zhj {B:Nat} {d:Done} (h:d.fp=.none∨∃ l,d.fp=.reads l) (b:B<=d.lo) (c:Calm B done):Calm B (d::done):=by
 intro x a;rcases zD.1 a with rfl | a
 .exact ⟨h,b⟩
 .exact c x a
theorem qyc {B:Nat} (c:Calm B done) {fp:FP} (e:fp=.none∨∃ l,fp=.reads l) {dels:List Nat}:((zl b i done).any λd=>qcp d dels fp)=false:=by
 rw [<-Bool.not_eq_true,List.any_eq_true];rintro ⟨d,f,h⟩;have a:=(c d (List.mem_filter.1 f).1).1;obtain ⟨m,g,j,k,n⟩:=d;simp only at a;rcases a with a | ⟨l,a⟩<;>rcases e with rfl | ⟨o,rfl⟩<;>subst a<;>cases h
theorem zhk {B nm:Nat} (a:Calm B done) (h:nm<B):nm ∉ (zl b i done).flatMap Done.names:=by
 intro c;obtain ⟨d,e,f⟩:=List.mem_flatMap.1 c;have g:=(a d (List.mem_filter.1 e).1).2;have j:=(List.mem_range'_1.1 f).1;omega
theorem qi8 {l:List Nat} {dels:List Nat} {nm:Nat} (b:nm ∈ l) (c:nm<H.next) (d:nm ∉ dels):(zo H (.reads l) dels).get nm=H.get nm:=by
 have a:(Nat.blt nm H.next&&!dels.any λm=>Nat.beq nm m)=true:=qr0 c d;simp only [zo,Heap.get,js];rw [zT (List.mem_filter.2 ⟨b,a⟩)]
theorem qi2 {l dels:List Nat}:qb4 H (zo H (.reads l) dels) (.reads l) dels=H:=by
 simp only [qb4,zo,Nat.sub_self,List.range'_zero,ke]
end
section
variable {o:Oper}
theorem qs0 {t:TypeId} {ti b:TI} {x:Operand} {k nm g off lim:Nat} {f:Field} (c:o.op=.fieldAddr t x k) (d:E.types t=some ti) (e:qg9 ti k=some f) (a:E.types f.type=some b) (h:Nat.beq b.size 0=false) (i:opd fr H x=some (.ptr nm g off lim)):kc E o fr H=some (.val (.ptr nm g (off+f.offset) lim),H):=by
 simp only [kc,c,d,e,a,h,i,zB,zQ]
end
theorem qbb {x:O}:(H.new x).get H.next=some x:=by
 obtain ⟨t,n,r,g⟩:=H;simp only [Heap.new,Heap.get,Tree.kv,if_true]
theorem qdj {x:O} {nm:Nat} (h:nm<H.next):(H.new x).get nm=H.get nm:=by
 obtain ⟨t,n,r,g⟩:=H;have:¬ nm=n:=by simp only at h;omega
 simp only [Heap.new,Heap.get,Tree.kv,zF this]
theorem qw {x:O}:(H.new x).next=H.next+1:=by cases H;rfl
theorem q1t {x:O}:(H.new x).zf=H.zf:=by cases H;rfl
theorem q82 {x:O}:(H.new x).ro=H.ro:=by cases H;rfl
def Heap.put (H:Heap) (nm:Nat) (x:O):Heap:={H with qbq:=H.qbq.set nm x}
theorem qb3 {nm:Nat} {x:O} (h:H.ro<=nm):H.upd nm x=some (H.put nm x):=by
 obtain ⟨t,n,r,g⟩:=H;have a:Nat.blt nm r=false:=by
  rw [<-Bool.not_eq_true,Nat.blt_eq];simp only at h;omega
 simp only [Heap.upd,a,zQ,Heap.put]
theorem qaf {nm:Nat} {x:O}:(H.put nm x).get nm=some x:=by simp only [Heap.put,Heap.get,Tree.kv,if_true]
theorem qb8 {nm m:Nat} {x:O} (h:m≠nm):(H.put nm x).get m=H.get m:=by simp only [Heap.put,Heap.get,Tree.kv,zF h]
structure Keeps (H H':Heap):Prop where
 next:H.next<=H'.next
 ro:H'.ro=H.ro
 zf:H'.zf=H.zf
 old:∀ nm,nm<H.next->H'.get nm=H.get nm
theorem Keeps.refl (H:Heap):Keeps H H:=⟨zN _,rfl,rfl,λ_ _=>rfl⟩
theorem Keeps.trans {H H' a:Heap} (h:Keeps H H') (b:Keeps H' a):Keeps H a:=
 ⟨zR h.next b.next,b.ro.trans h.ro,b.zf.trans h.zf,λnm c=>(b.old nm (zL c h.next)).trans (h.old nm c)⟩
theorem Keeps.new {H H':Heap} (h:Keeps H H') (x:O):Keeps H (H'.new x):=
 ⟨by rw [qw];have:=h.next;omega,by rw [q82];exact h.ro,by rw [q1t];exact h.zf,λnm a=>by rw [qdj (zL a h.next)];exact h.old nm a⟩
theorem Keeps.put {H H':Heap} (h:Keeps H H') {nm:Nat} (b:H.next<=nm) (x:O):Keeps H (H'.put nm x):=
 ⟨h.next,h.ro,h.zf,λm a=>by rw [qb8 (by omega)];exact h.old m a⟩
section
variable {b:Array Nat} {i:Nat} {l:List Oper} {done:List Done} {o:Oper}
theorem zh3 {x:O} {dels:List Nat}:qb4 H ((zo H .none dels).new x) .none dels=H.new x:=by
 obtain ⟨t,n,r,g⟩:=H;have a:(Tree.nil.set n x:Tree O).get n=some x:=by rw [Tree.kv,zT rfl]
 simp only [qb4,zo,Heap.new,Nat.add_sub_cancel_left,List.range'_one,ke,a]
theorem qn2 {l:List Nat} {dels:List Nat} {nm:Nat} (b:nm ∈ l) (c:nm<H.next) (d:nm ∉ dels):(zo H (.writes l) dels).get nm=H.get nm:=by
 have a:(Nat.blt nm H.next&&!dels.any λm=>Nat.beq nm m)=true:=qr0 c d;simp only [zo,Heap.get,js];rw [zT (List.mem_filter.2 ⟨b,a⟩)]
end
end
end Go.E2
