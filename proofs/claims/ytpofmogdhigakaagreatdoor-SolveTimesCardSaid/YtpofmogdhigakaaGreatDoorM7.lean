/- A VERIFIED EVALUATOR, texts E3zg, E3zh, E3zi, E3zj, E3zk, E3zl, E3ta, E3tb, E3tc, E3zm, L3a in one. -/
import Derived.Test.YtpofmogdhigakaaGreatDoorM6
/- E3: A DEFERRED FUNCTION THAT RECOVERS, in E2's words. -/
namespace Go.E3
open Go Go.E2
def qil (o:Oper):Bool:=o.guard.isNone&&match o.op with
  | .typeAssert .. | .move _ | .assign _ | .extract .. | .alloc _ | .store ..=>true
  | _=>false
def qon:Code->Option (Nat×Code)
  | .region id ops false=>match ops.toList with
    | o::l=>match o.dst with
      | some d=>if (qg0 o&&o.guard.isNone)&&l.all qil then some (d,.region id l.toArray false) else none
      | none=>none
    | []=>none
  | .seq a b=>(qon a).bind λr=>if qaq b then none else some (r.1,.seq r.2 b)
  | _=>none
def qel:Code->Bool
  | .region _ ops _=>ops.toList.all λo=>!qa7 o
  | .seq a b=>qel a&&qel b
  | .cond _ a b=>qel a&&qel b
  | .block _ a=>qel a
  | .loop a=>qel a
  | .scope a=>qel a
  | .rangeFunc ..=>false
  | _=>true
def q6n:Md->V×Md
  | .panicking v=>(v,.recovered v)
  | md=>(.nili,md)
section
variable {E:Env} {fn:FuncId} {call:E2.Call} {fuel:Nat}
theorem zf3 {o:Oper} (h:qil o=true) {fr:Fr} {H:Heap} {r:Out×Heap} (a:zb E o fr H=some r):(∃ v,r.1=.val v)∨r.1=.skip:=by
  unfold qil at h;simp only [zA] at h;obtain ⟨_,h⟩:=h;split at h
  . rename_i b
    simp only [zb,b] at a;obtain ⟨ti,_,a⟩:=zI.1 a;split at a
    . cases a
    . obtain ⟨x,_,a⟩:=zI.1 a
      obtain ⟨y,_,rfl⟩:=zM.1 a;exact .inl ⟨_,rfl⟩
  . rename_i b
    simp only [zb,b] at a;obtain ⟨y,_,rfl⟩:=zM.1 a;exact .inl ⟨_,rfl⟩
  . rename_i b
    simp only [zb,b] at a;obtain ⟨y,_,rfl⟩:=zM.1 a;exact .inl ⟨_,rfl⟩
  . rename_i b
    simp only [zb,b] at a;obtain ⟨x,_,a⟩:=zI.1 a;split at a
    . grind
    . cases a
  . rename_i b
    simp only [zb,b] at a;obtain ⟨y,_,rfl⟩:=zM.1 a;exact .inl ⟨_,rfl⟩
  . rename_i b
    simp only [zb,b] at a;obtain ⟨x,_,a⟩:=zI.1 a;obtain ⟨x,_,a⟩:=zI.1 a;obtain ⟨x,_,a⟩:=zI.1 a;obtain ⟨y,_,rfl⟩:=zM.1 a;exact .inr rfl
  . cases h
theorem q8x {o:Oper} (h:qil o=true):o.guard=none/\qg0 o=false/\qa7 o=false:=by
  unfold qil at h;simp only [zA,Option.isNone_iff_eq_none] at h;obtain ⟨a,h⟩:=h;refine ⟨a,?_,?_⟩
  . unfold qg0
    split
    . simp_all
    . rfl
  . unfold qa7
    split
    . simp_all
    . rfl
theorem qkr {nd:Bool} {all all':Array Oper} {md:Md}:∀ {l:List Oper} {fr:Fr} {H:Heap} {x:Ex×Fr×Heap},(∀ o ∈ l,qil o=true)->ku E call nd all l fr H=some x->qfa E all' l md fr H=some (x.1,md,x.2)
  | [],fr,H,x,_,h=>by
    simp only [ku,zS] at h;subst h;rfl
  | o::l,fr,H,x,c,h=>by
    obtain ⟨g,i,j⟩:=q8x (c o zC);rw [qfy j] at h;have f:∀ a,ky o a fr=some true:=λa=>by simp only [ky,g]
    simp only [j8,f] at h;simp only [qfa,f,i,zQ,Bool.false_eq_true,↓reduceIte];cases d:zb E o fr H with
    | none=>rw [d] at h;cases h
    | some r=>
      obtain ⟨u,H1⟩:=r;rw [d] at h;rcases zf3 (c o zC) d with ⟨v,b⟩ | b
      . have b:u=.val v:=b
        subst b;exact qkr (λq e=>c q (zG _ e)) h
      . have b:u=.skip:=b
        subst b;exact qkr (λq e=>c q (zG _ e)) h
theorem qk4 {md:Md}:∀ {c:Code} {fr:Fr} {H:Heap},qaq c=false->qai E call fn fuel c md fr H=(qh E call fn none fuel c fr H).map λx=>(x.1,md,x.2)
  | .seq a b,fr,H,h=>by
    simp only [qaq,Bool.or_eq_false_iff] at h;simp only [qai,qh,qk4 h.1];cases qh E call fn none fuel a fr H with
    | none=>rfl
    | some r=>
      obtain ⟨e,d,H1⟩:=r;cases e with
      | normal=>exact qk4 h.2
      | _=>rfl
  | .cond c a b,fr,H,h=>by
    simp only [qaq,Bool.or_eq_false_iff] at h;simp only [qai,qh];split
    . exact qk4 h.1
    . exact qk4 h.2
    . rfl
  | .skip,fr,H,h=>by simp only [qai,qcz,h,zQ,Bool.false_eq_true,↓reduceIte]
  | .label _,fr,H,h=>by simp only [qai,qcz,h,zQ,Bool.false_eq_true,↓reduceIte]
  | .exit _,fr,H,h=>by simp only [qai,qcz,h,zQ,Bool.false_eq_true,↓reduceIte]
  | .goto _,fr,H,h=>by simp only [qai,qcz,h,zQ,Bool.false_eq_true,↓reduceIte]
  | .ret,fr,H,h=>by simp only [qai,qcz,h,zQ,Bool.false_eq_true,↓reduceIte]
  | .refuse _,fr,H,h=>by simp only [qai,qcz,h,zQ,Bool.false_eq_true,↓reduceIte]
  | .block ..,fr,H,h=>by simp only [qai,qcz,h,zQ,Bool.false_eq_true,↓reduceIte]
  | .loop _,fr,H,h=>by simp only [qai,qcz,h,zQ,Bool.false_eq_true,↓reduceIte]
  | .scope _,fr,H,h=>by simp only [qai,qcz,h,zQ,Bool.false_eq_true,↓reduceIte]
  | .region ..,fr,H,h=>by simp only [qai,qcz,h,zQ,Bool.false_eq_true,↓reduceIte]
  | .rangeFunc ..,fr,H,h=>by simp only [qai,qcz,h,zQ,Bool.false_eq_true,↓reduceIte]
theorem zga {md:Md}:∀ {c j:Code} {d:Nat} {fr:Fr} {H:Heap} {x:Ex×Fr×Heap},qon c=some (d,j)->qh E call fn none fuel j (fr.put (some d) (q6n md).1) H=some x->qai E call fn fuel c md fr H=some (x.1,(q6n md).2,x.2)
  | .region id ops g,j,d,fr,H,x,h,f=>by
    cases g with
    | true=>cases h
    | false=>
      simp only [qon] at h;split at h
      . rename_i o l p
        split at h
        . rename_i s w
          rcases zz h with ⟨_,h⟩ | ⟨k,h⟩
          . cases h
          . cases h
            simp only [zA,Option.isNone_iff_eq_none] at k;obtain ⟨⟨t,y⟩,z⟩:=k;simp only [qh,zQ,Bool.false_eq_true,↓reduceIte] at f;have A:ky o ops fr=some true:=by simp only [ky,y]
            have i:qaq (.region id ops false)=true:=by
              simp only [qaq,p,List.any_cons,t,Bool.true_or]
            simp only [qai,qcz,i,zO,↓reduceIte,p,qfa,A,t];have m:=qkr (all':=ops) (md:=(q6n md).2) (λq B=>List.all_eq_true.1 z q B) f;rw [w];cases md with
            | panicking v=>exact m
            | returning=>exact m
            | recovered v=>exact m
        . cases h
      . cases h
  | .seq a b,j,d,fr,H,x,h,f=>by
    obtain ⟨⟨s,C⟩,D,h⟩:=zI.1 h;rcases zz h with ⟨k,h⟩ | ⟨_,h⟩
    . cases h
      simp only [qh] at f;cases u:qh E call fn none fuel C (fr.put (some s) (q6n md).1) H with
      | none=>simp_all
      | some r=>
        obtain ⟨e,n,H1⟩:=r;rw [u] at f;have F:=zga D u;simp only [qai,F];cases e with
        | normal=>
          have f:qh E call fn none fuel b n H1=some x:=f;simp only;rw [qk4 k,f];rfl
        | _=>cases f;rfl
    . cases h
  | .skip,_,_,_,_,_,h,_=>by cases h
  | .label _,_,_,_,_,_,h,_=>by cases h
  | .exit _,_,_,_,_,_,h,_=>by cases h
  | .goto _,_,_,_,_,_,h,_=>by cases h
  | .ret,_,_,_,_,_,h,_=>by cases h
  | .refuse _,_,_,_,_,_,h,_=>by cases h
  | .cond ..,_,_,_,_,_,h,_=>by cases h
  | .block ..,_,_,_,_,_,h,_=>by cases h
  | .loop _,_,_,_,_,_,h,_=>by cases h
  | .scope _,_,_,_,_,_,h,_=>by cases h
  | .rangeFunc ..,_,_,_,_,_,h,_=>by cases h
theorem q80 (fr:Fr) (dst:Option Tmp) (v:V):(fr.put dst v).defers=fr.defers:=by
  obtain ⟨t,n,d⟩:=fr;cases dst with
  | none=>rfl
  | some i=>simp only [Fr.put];cases Nat.blt i n<;>rfl
theorem qop {nd:Bool} {all:Array Oper}:∀ {l:List Oper} {fr:Fr} {H:Heap} {x:Ex×Fr×Heap},(∀ o ∈ l,qa7 o=false)->ku E call nd all l fr H=some x->x.2.1.defers=fr.defers
  | [],fr,H,x,_,h=>by
    simp only [ku,zS] at h;subst h;rfl
  | o::l,fr,H,x,a,h=>by
    rw [qfy (a o zC)] at h;split at h
    . rw [qop (λq b=>a q (zG _ b)) h,q80]
    . cases h;rfl
    . cases h
theorem qs4 {all:Array Oper} {b:Array Nat}:∀ {l:List Oper} {i:Nat} {done:List Done} {fr:Fr} {H:Heap} {x:Fr×Heap},qat E call all b i l done fr H=some x->x.1.defers=fr.defers
  | [],_,_,fr,H,x,h=>by
    simp only [qat,zS] at h;subst h;rfl
  | o::l,i,done,fr,H,x,h=>by
    simp only [qat] at h;obtain ⟨a,_,h⟩:=zI.1 h;rcases qk1 h with ⟨_,h⟩ | ⟨_,h⟩
    . split at h
      . rcases qk1 h with ⟨_,h⟩ | ⟨_,h⟩
        . rw [qs4 h,q80]
        . cases h
      . cases h
    . cases h
theorem qby:∀ {c:Code} {fr:Fr} {H:Heap} {x:Ex×Fr×Heap},qel c=true->qh E call fn none fuel c fr H=some x->x.2.1.defers=fr.defers
  | .skip,_,_,_,_,h=>by cases h;rfl
  | .label _,_,_,_,_,h=>by cases h;rfl
  | .exit _,_,_,_,_,h=>by cases h;rfl
  | .goto _,_,_,_,_,h=>by cases h;rfl
  | .ret,_,_,_,_,h=>by cases h;rfl
  | .refuse _,_,_,_,_,h=>by cases h
  | .rangeFunc ..,_,_,_,d,_=>by cases d
  | .seq a b,fr,H,x,d,h=>by
    simp only [qel,zA] at d;simp only [qh] at h;cases f:qh E call fn none fuel a fr H with
    | none=>rw [f] at h;cases h
    | some r=>
      obtain ⟨e,i,H1⟩:=r;rw [f] at h;have g:=qby d.1 f;cases e with
      | normal=>exact (qby d.2 h).trans g
      | _=>cases h;exact g
  | .cond c a b,fr,H,x,d,h=>by
    simp only [qel,zA] at d;simp only [qh] at h;split at h
    . exact qby d.1 h
    . exact qby d.2 h
    . cases h
  | .block id a,fr,H,x,d,h=>by
    simp only [qel] at d;simp only [qh] at h;cases f:qh E call fn none fuel a fr H with
    | none=>rw [f] at h;cases h
    | some r=>
      obtain ⟨e,i,H1⟩:=r;rw [f] at h;have g:=qby d f;cases e with
      | exit k=>simp only at h;cases p:Nat.beq k id<;>rw [p] at h<;>cases h<;>exact g
      | _=>cases h;exact g
  | .scope a,fr,H,x,d,h=>by
    simp only [qel] at d;simp only [qh] at h;cases f:qh E call fn none fuel a fr H with
    | none=>rw [f] at h;cases h
    | some r=>
      obtain ⟨e,i,H1⟩:=r;rw [f] at h;have g:=qby d f;cases e<;>cases h<;>exact g
  | .region id ops j,fr,H,x,d,h=>by
    simp only [qel] at d;cases j with
    | true=>
      simp only [qh,zO,↓reduceIte,zM] at h;obtain ⟨r,g,rfl⟩:=h;exact qs4 g
    | false=>
      simp only [qh,zQ,Bool.false_eq_true,↓reduceIte] at h;exact qop (λo q=>by have:=List.all_eq_true.1 d o q;simpa using this) h
  | .loop a,fr,H,x,d,h=>by
    simp only [qel] at d;simp only [qh] at h;have l:∀ (n:Nat) (m:Ex) (fr:Fr) (H:Heap),iter (λ(s:Ex×Fr×Heap)=>match qh E call fn none fuel a s.2.1 s.2.2 with
        | some (.normal,fr',H')=>some (true,.normal,fr',H')
        | some r=>some (false,r)
        | none=>none) n (m,fr,H)=some x->x.2.1.defers=fr.defers:=by
      intro n
      induction n with
      | zero=>intro m fr H h;cases h
      | succ n t=>
        intro m fr H h;simp only [iter] at h;cases f:qh E call fn none fuel a fr H with
        | none=>simp_all
        | some r=>
          obtain ⟨e,i,H1⟩:=r;rw [f] at h;have g:=qby d f;cases e with
          | normal=>grind
          | _=>grind
    exact l _ _ _ _ h
def zg6 (E:Env) (D:D) (md:Md) (H:Heap) (Q:Heap->Prop):Prop:=∃ H',(∃ a,∀ k,a<=k->qf4 E (ja E k) (k+1) D md H=some ((q6n md).2,H'))/\Q H'
theorem q69 {f:Nat} {fi:FI} {c g:Code} {d:Nat} {args cap:List V} {md:Md} {H:Heap} {Q:Heap->Prop} (l:E.funcs f=some fi) (m:fi.body=some c) (o:qon c=some (d,g)) (p:qel g=true) (a:fi.results=[])
    (h:Wp E f none g (({tmps:=qbm (args++cap),n:=max (args++cap).length fi.ntmps,defers:=[]}:Fr).put (some d) (q6n md).1) H λex _ H'=>(ex=.normal∨ex=.ret)/\Q H'):zg6 E ⟨.func f,cap,args⟩ md H Q:=by
  obtain ⟨⟨ex,fr',H'⟩,⟨q,j⟩,i,r⟩:=h;refine ⟨H',⟨q,λk b=>?_⟩,r⟩;have s:=zga (md:=md) o (j k b);have e:=qby p (j k b);rw [q80] at e;have e:fr'.defers=[]:=e;simp only [qf4,l,zB,m,s,a,e];rcases i with rfl | rfl<;>rfl
theorem quf {md:Md} {T:List Dfr}:∀ {a:List Dfr} {H H':Heap},jh a H=some H'->leave E call fuel (a++T) md H=leave E call fuel T md H'
  | [],H,H',h=>by simp only [jh,zS] at h;simp [h]
  | .mark nm::ds,H,H',h=>by
    simp only [jh] at h;simp only [List.cons_append,leave];split at h
    . rename_i b
      rw [b];obtain ⟨H1,c,e⟩:=zI.1 h;simp only [c,zB];exact quf e
    . cases h
  | .call d::ds,H,H',h=>by simp [jh] at h
theorem q41 {f:Nat} {fi:FI} {c:Code} {args:List V} {H:Heap} {Q:V->Heap->Prop} (r:E.spec f=none) (s:E.funcs f=some fi) (t:fi.body=some c)
    (h:Wp E f none c {tmps:=qbm args,n:=max args.length fi.ntmps,defers:=[]} H λe fr' H'=>∃ m T a,fr'.defers=m++T/\jh m H'=some a/\
      ((T=[]/\(e=.normal∨e=.ret)/\∃ vs,zv E fr' a fi.results=some vs/\Q (oneOf vs) a)∨
       ∃ D md,T=[.call D]/\((md=.returning/\(e=.normal∨e=.ret))∨∃ v,md=.panicking v/\e=.panic [⟨v,false,false⟩])/\zg6 E D md a λd=>∃ vs,zv E fr' d fi.results=some vs/\Q (oneOf vs) d)):qaa E (.func f) args H Q:=by
  obtain ⟨⟨e,fr',H'⟩,⟨u,w⟩,m,T,a,x,y,i⟩:=h;rcases i with ⟨rfl,i,vs,o,p⟩ | ⟨D,md,rfl,j,d,⟨z,q⟩,vs,o,p⟩
  . refine ⟨oneOf vs,a,⟨u+1,λk A=>?_⟩,p⟩
    obtain ⟨k,rfl⟩:∃ g,k=g+1:=⟨k-1,by omega⟩;have l:leave E (ja E k) (k+1) fr'.defers .returning H'=some (.returning,a):=by rw [x,quf y];rfl
    have b:qhx E (ja E k) (k+1) (e,fr',H')=some (.returning,fr',a):=by
      rcases i with rfl | rfl<;>simp [qhx,l]
    simp only [ja,r,s,t,zB,w k (by omega),b,qgb,o,zH]
  . refine ⟨oneOf vs,d,⟨max u z+1,λk A=>?_⟩,p⟩
    obtain ⟨k,rfl⟩:∃ g,k=g+1:=⟨k-1,by omega⟩;have l:leave E (ja E k) (k+1) fr'.defers md H'=some (.returning,d):=by
      rw [x,quf y];simp only [leave,q k (by omega),zB];rcases j with ⟨rfl,_⟩ | ⟨v,rfl,_⟩<;>rfl
    have b:qhx E (ja E k) (k+1) (e,fr',H')=some (.returning,fr',d):=by
      rcases j with ⟨rfl,i⟩ | ⟨v,rfl,rfl⟩
      . rcases i with rfl | rfl<;>simp [qhx,l]
      . simp [qhx,l]
    simp only [ja,r,s,t,zB,w k (by omega),b,qgb,o,zH]
end
end Go.E3
/- E3: FUNCTIONS THAT CATCH A PANIC: their conditions, and what these show. -/
namespace Go.E3
open Go Go.E2
section
variable {I B S Pr:Type} {L K:Nat->Type}
def q6i (A:Alg I B S Pr L K) (C:Cfg I B S Pr L) (keep:Bool) (rs:List ResultVar) (st a:St I B S Pr L) (k:P I B S Pr L->St I B S Pr L->Pr):Pr:=
  onS (A.ff "results") (qgg A C a rs) λvs=>qwp A keep vs a λvs st2=>k (q3m vs) {st2 with tmps:=st.tmps,n:=st.n,cells:=gcC st.next vs st2.cells}
def zbm (A:Alg I B S Pr L K) (C:Cfg I B S Pr L) (inl:Inl I B S Pr L) (f:Nat) (args:List (P I B S Pr L)) (st:St I B S Pr L) (k b:P I B S Pr L->St I B S Pr L->Pr):Pr:=
  if C.ans f then A.ff "answered" else
  match C.E.funcs f with
  | some fi=>match fi.body with
    | some c=>if qag c then jq A C inl none f 1 (unp c) {st with tmps:=Tree.ofList args,n:=max args.length fi.ntmps} λex a=>
        match ex with
        | .normal=>q6i A C (C.keepM f) fi.results st a k
        | .ret=>q6i A C (C.keepM f) fi.results st a k
        | .exit j=>if 1000000<=j then onS (A.ff "panic") (a.tmps.get (j-1000000)) λp=>(match p with
            | .iface _ _=>b p {a with tmps:=st.tmps,n:=st.n}
            | _=>A.ff "panic") else A.ff "way out"
        | _=>A.ff "way out"
      else A.ff "ids"
    | none=>A.ff "no body"
  | none=>A.ff "no function"
def q82 (A:Alg I B S Pr L K) (C:Cfg I B S Pr L) (inl:Inl I B S Pr L) (r:LRec I B S Pr L) (v:P I B S Pr L) (st:St I B S Pr L) (k:Ex->St I B S Pr L->Pr) (b:P I B S Pr L->St I B S Pr L->Pr):Pr:=
  match v with
  | .func g first cap=>if qgc C.E g then
      zbm A C inl g (first++[.yield (st.next+1)]++cap) {st with cells:=(st.next+1,.lp r)::st.cells,next:=st.next+2} (λ_ a=>zaf A st (st.next+1) a k)
        λp a=>b p {a with cells:=qa1 a.cells (st.next+1),tmps:=st.tmps,n:=st.n}
    else A.ff "no body"
  | _=>A.ff "range"
def que (ops:Array Oper):Option (List Oper×Go.Call×Option Tmp):=
  match ops.toList.reverse with
  | o::l=>match o.op with
    | .defer c=>if o.guard.isNone&&l.reverse.all (λq=>!qa7 q) then some (l.reverse,c,o.dst) else none
    | _=>none
  | []=>none
abbrev Dfd (I B S a:Type) (L:Nat->Type):=Option (Nat×List (P I B S a L)×List (P I B S a L))
def q7z (A:Alg I B S Pr L K) (C:Cfg I B S Pr L) (st:St I B S Pr L) (c:Go.Call):Option (Nat×List (P I B S Pr L)×List (P I B S Pr L)):=
  match c.callee with
  | .value f=>(qey A C st c.args.toList).bind λargs=>(jj A C st f).bind λv=>match v with
    | .func g first cap=>some (g,cap,first++args)
    | _=>none
  | _=>none
def wpT (A:Alg I B S Pr L K) (C:Cfg I B S Pr L) (inl:Inl I B S Pr L) (fn:Nat) (m:Nat×List (P I B S Pr L)×List (P I B S Pr L)->P I B S Pr L->St I B S Pr L->Pr):Nat->Code->Dfd I B S Pr L->St I B S Pr L->(Dfd I B S Pr L->Ex->St I B S Pr L->Pr)->Pr
  | p,.seq a b,q,st,k=>wpT A C inl fn m (2 * p) a q st λi ex e=>match ex with
      | .normal=>A.lat λ_=>wpT A C inl fn m (2 * p+1) b i e k
      | ex=>k i ex e
  | p,.block id c,q,st,k=>wpT A C inl fn m (2 * p) c q st λi ex e=>match ex with
      | .exit j=>if Nat.beq j id then k i .normal e else k i (.exit j) e
      | ex=>k i ex e
  | p,.rangeFunc f h a b,q,st,k=>match q with
      | some d=>onS (A.ff "operand") (jj A C st f) λv=>q82 A C inl ⟨st.tmps,st.n,h.toList,a,b,fn,p,.ready⟩ v st (k (some d)) (m d)
      | none=>A.ff "nothing deferred"
  | p,.region id ops g,q,st,k=>match (if g then none else que ops) with
      | some (l,c,dst)=>match q with
        | none=>wpOps A C inl ops l st λe=>onS (A.ff "defer") (q7z A C e c) λd=>k (some d) .normal (e.put dst qmm)
        | some _=>A.ff "defer"
      | none=>if qel (.region id ops g) then jq A C inl none fn p (.region id ops g) st (k q) else A.ff "defer"
  | p,c,q,st,k=>if qel c then jq A C inl none fn p c st (k q) else A.ff "defer"
def qtn (A:Alg I B S Pr L K) (C:Cfg I B S Pr L) (inl:Inl I B S Pr L) (d:Nat×List (P I B S Pr L)×List (P I B S Pr L)) (e:P I B S Pr L) (st:St I B S Pr L) (k:St I B S Pr L->Pr):Pr:=
  match C.E.funcs d.1 with
  | some fi=>match fi.body with
    | some c=>match qon c with
      | some (t,b)=>if qel b&&fi.results.isEmpty then
          jq A C inl none d.1 1 b (({st with tmps:=Tree.ofList (d.2.2++d.2.1),n:=max (d.2.2++d.2.1).length fi.ntmps}:St I B S Pr L).put (some t) e) λex a=>match ex with
            | .normal=>k {a with tmps:=st.tmps,n:=st.n}
            | .ret=>k {a with tmps:=st.tmps,n:=st.n}
            | _=>A.ff "way out"
        else A.ff "deferred"
      | none=>A.ff "deferred"
    | none=>A.ff "no body"
  | none=>A.ff "no function"
def q9d (A:Alg I B S Pr L K) (C:Cfg I B S Pr L) (inl:Inl I B S Pr L) (keep:Bool) (rs:List ResultVar) (st:St I B S Pr L) (q:Dfd I B S Pr L) (a:St I B S Pr L) (k:P I B S Pr L->St I B S Pr L->Pr):Pr:=
  match q with
  | none=>q6i A C keep rs st a k
  | some d=>qtn A C inl d .nili a λst2=>q6i A C keep rs st st2 k
def zg3 (A:Alg I B S Pr L K) (C:Cfg I B S Pr L) (inl:Inl I B S Pr L) (f:Nat) (args:List (P I B S Pr L)) (st:St I B S Pr L) (k:P I B S Pr L->St I B S Pr L->Pr):Pr:=
  if C.ans f then A.ff "answered" else
  match C.E.funcs f with
  | some fi=>match fi.body with
    | some c=>wpT A C inl f (λd p a=>qtn A C inl d p a λst2=>q6i A C (C.keepM f) fi.results st st2 k) 1 c none {st with tmps:=Tree.ofList args,n:=max args.length fi.ntmps} λq ex a=>match ex with
        | .normal=>q9d A C inl (C.keepM f) fi.results st q a k
        | .ret=>q9d A C inl (C.keepM f) fi.results st q a k
        | _=>A.ff "way out"
    | none=>A.ff "no body"
  | none=>A.ff "no function"
def qtq (A:Alg I B S Pr L K) (C:Cfg I B S Pr L) (depth f:Nat) (args:List (P I B S Pr L)) (r:P I B S Pr L):Pr:=
  let x:=jy args 1
  zg3 A C (qv2 A C depth) f x.1 {tmps:=.nil,n:=0,cells:=[],owns:=[],next:=x.2,known:=[]} (ends A r)
end
end Go.E3
/- E3: FUNCTIONS THAT CATCH A PANIC against E2's. -/
namespace Go.E3
open Go Go.E2
variable {K:Nat->Type}
section
variable {X:Codecs K} {sz:Nat->Nat} {C:ZC K} {base H:Heap} {st:StV K} {w:Wd}
variable {tbl:Tbl K} {inv:Nat->List (NV K)->Prop} {meas:Nat->List (NV K)->Nat} {inl:ZI K}
theorem qxf {c:Bool} {p:Prop} (h:if c then False else p):c=false/\p:=by
  cases c with
  | true=>exact h.elim
  | false=>exact ⟨rfl,h⟩
theorem qz5.mono {E:Env} {t:Tgt} {args:List V} {H:Heap} {Q b c a:V->Heap->Prop} (h:qz5 E t args H Q b) (f:∀ v H',Q v H'->c v H') (g:∀ v H',b v H'->a v H'):qz5 E t args H c a:=by
  obtain ⟨y,H',d,h⟩:=h;rcases h with ⟨v,e,h⟩ | ⟨v,e,h⟩
  . exact ⟨y,H',d,.inl ⟨v,e,f v H' h⟩⟩
  . exact ⟨y,H',d,.inr ⟨v,e,g v H' h⟩⟩
theorem qra (ok:CfgOk X sz C) (R:RelH X sz C base st H w) {b:StV K} {fr':Fr} {c:Heap} {w1 w2 h:Wd} {keep:Bool} {rs:List ResultVar} {k:PV K->StV K->Prop}
    (hle:Le {w with fl:=w.nx} w1) (q:LeB w1 w2) (hold:∀ m,m<w.nx->w2.g m=w1.g m) (r:Le w2 h) (o:RelH X sz C base b c h) (F:qmy X sz h b.tmps fr') (d:q6i (qu X tbl inv meas) C keep rs st b k) :
    ∃ us,zv C.E fr' c rs=some us/\∃ p a w',k p a/\a.tmps=st.tmps/\a.n=st.n/\RelH X sz C base a c w'/\Le w w'/\Rep X sz w' p (oneOf us):=by
  obtain ⟨y,i,d⟩:=qf d;obtain ⟨us,s,t⟩:=qgh (fr:=fr') o F i;obtain ⟨j,st2,l,d,u,e,v⟩:=qqi ok o t d;have f:Le w {l with fl:=w.fl}:=Le.leave (λn x=>by rw [R.g];exact R.wf n (by rw [<-R.nx];exact x)) hle q hold (r.trans e);exact ⟨us,s,_,_,{l with fl:=w.fl},d,rfl,rfl,((u.qgs ok w.fl).zeb (cs:=gcC st.next j st2.cells) q5p).alike rfl rfl rfl rfl,f,q1a (v.qbb ok.len (LeB.qgs l w.fl))⟩
theorem q0f (ok:CfgOk X sz C) (R:RelH X sz C base st H w) {args:List (PV K)} {vs:List V} (c:ql X sz w args vs) (n:Nat) :
    Rel X sz C base {st with tmps:=Tree.ofList args,n:=max args.length n} {tmps:=qbm vs,n:=max vs.length n,defers:=[]} H {w with fl:=w.nx}:=by
  have b:ql X sz {w with fl:=w.nx} args vs:=c.qbb ok.len (LeB.qgs w w.nx);refine ⟨(R.qgs ok w.nx).alike rfl rfl rfl rfl,λi p d=>?_,by rw [c.1],.nil (zN _)⟩;have a:(Tree.ofList args).get i=some p:=d;rw [Tree.qi3] at a;obtain ⟨v,e,f⟩:=b.get a;exact ⟨v,zp e,f⟩
theorem q4v (ok:CfgOk X sz C) (ok2:CfgOk2 X C) (tok:qcu X sz C tbl) (W:qt C) (B:qhd X sz C inl) {f:Nat} {args:List (PV K)} {st:StV K} {k U:PV K->StV K->Prop} (h:zbm (qu X tbl inv meas) C inl f args st k U) {base H:Heap} {w:Wd} {vs:List V}
    (R:RelH X sz C base st H w) (Y:ql X sz w args vs):qz5 C.E (.func f) vs H (λv H'=>∃ p a w',k p a/\a.tmps=st.tmps/\a.n=st.n/\RelH X sz C base a H' w'/\Le w w'/\Rep X sz w' p v)
      (λv H'=>∃ p a w',U p a/\a.tmps=st.tmps/\a.n=st.n/\RelH X sz C base a H' w'/\Le w w'/\Rep X sz w' p v):=by
  obtain ⟨s,h⟩:=qxf h;have Z:=W.1 f s;split at h
  . rename_i fi D
    split at h
    . rename_i c hc
      obtain ⟨G,h⟩:=cond_prop h;refine q7x Z D hc (zrc G (zx (rd:=none) (round:=none) ok ok2 tok B trivial (q0f ok R Y fi.ntmps) h) (λex fr' H' I J=>?_) (λt fr' H' J=>?_))
      . obtain ⟨_,u,w1,d,o,e⟩:=J
        have a0:q6i (qu X tbl inv meas) C (C.keepM f) fi.results st u k->∃ b,jh fr'.defers H'=some b/\∃ vs,zv C.E fr' b fi.results=some vs/\∃ p a w',k p a/\a.tmps=st.tmps/\a.n=st.n/\RelH X sz C base a b w'/\Le w w'/\Rep X sz w' p (oneOf vs):=by
          intro hm;obtain ⟨b,w2,r,L,hB,M,l⟩:=qhk ok o.h (F:=w.nx) (λx N=>by
            obtain ⟨m,O,P,y,Q⟩:=o.ds.1 x N;exact ⟨m,O,P,by rw [e.fl] at y;exact y,Q⟩) o.ds.2.1
          obtain ⟨us,e1,e2⟩:=qra ok R e hB l (.refl w2) L (λi p S=>by
            obtain ⟨v,T,z⟩:=o.f i p S;exact ⟨v,T,z.qbb ok.len hB⟩) hm
          exact ⟨b,r,us,e1,e2⟩
        cases ex with
        | normal=>simp_all
        | ret=>simp_all
        | exit j=>
          have:=I j rfl;simp only at d;rw [zF (by omega)] at d;exact absurd d id
        | _=>exact absurd d id
      . obtain ⟨_,u,w1,d,o,e⟩:=J
        simp only at d;rw [zT (by omega),Nat.add_sub_cancel_left] at d;obtain ⟨p,S,d⟩:=qf d;split at d
        . rename_i ty q
          obtain ⟨v,T,z⟩:=o.f t _ S;cases z with
          | @iface t' p' v' z=>
          obtain ⟨b,w2,r,L,hB,M,l⟩:=qhk ok o.h (F:=w.nx) (λx N=>by
            obtain ⟨m,O,P,y,Q⟩:=o.ds.1 x N;exact ⟨m,O,P,by rw [e.fl] at y;exact y,Q⟩) o.ds.2.1
          have A:Le w {w2 with fl:=w.fl}:=Le.leave (λn hn=>by rw [R.g];exact R.wf n (by rw [<-R.nx];exact hn)) e hB l (.refl w2);refine ⟨ty,v',T,b,r,.inr ⟨_,rfl,_,_,{w2 with fl:=w.fl},d,rfl,rfl,(L.qgs ok w.fl).alike rfl rfl rfl rfl,A,?_⟩⟩;exact .iface ((z.qbb ok.len hB).qbb ok.len (LeB.qgs w2 w.fl))
        . exact absurd d id
    . exact absurd h id
  . exact absurd h id
def zkh (X:Codecs K) (sz:Nat->Nat) (C:ZC K) (base:Heap) (w:Wd) (k:Ex->StV K->Prop) (b:PV K->StV K->Prop) (ex:Ex) (fr':Fr) (H':Heap):Prop:=
  qqo X sz C base w k ex fr' H'∨∃ v p a w',ex=.panic [⟨v,false,false⟩]/\b p a/\Rel X sz C base a fr' H' w'/\Le w w'/\Rep X sz w' p v
theorem q3z (ok:CfgOk X sz C) (ok2:CfgOk2 X C) (tok:qcu X sz C tbl) (hq:qt C) (a0:qhd X sz C inl) {rd round:Option Nat} {fnE:Nat} {st:StV K} {fr:Fr} {H:Heap} {w:Wd} (Q:q2b w rd round) (R:Rel X sz C base st fr H w) (G:inRound rd st=true)
    {f:Operand} {vf:V} {v:PV K} (ev:opd fr H f=some vf) (rv:Rep X sz w v vf) {r:LRec Int Bool (List UInt8) Prop (λc=>List (K c))} {params:Array Tmp} {a b:Code}
    (e1:r.tmps=st.tmps) (e2:r.n=st.n) (e3:r.params=params.toList) (e4:r.assign=a) (e5:r.body=b) (e6:r.mode=.ready) {k:Ex->StV K->Prop} {kp:PV K->StV K->Prop} (h:q82 (qu X tbl inv meas) C inl r v st k kp) :
    Wp C.E fnE round (.rangeFunc f params a b) fr H (zkh X sz C base w k kp):=by
  unfold q82 at h;split at h
  . rename_i g first cap
    cases rv with
    | @func f' a' c' va vc ha hc h1 h2=>
    obtain ⟨hb,h⟩:=cond_prop h;obtain ⟨mk,H1,d,w1,he,S,B,y⟩:∃ mk H1 d w1,qj2 round H=some (mk,H1,d)/\RelH X sz C base {st with next:=st.next+1} H1 w1/\Le w w1/\q19 base.next w1 (mk++fr.defers):=by
      cases round with
      | none=>
        obtain ⟨w1,S,e,hg,a1⟩:=qsr ok R.h;have y:=R.ds.mono e;refine ⟨[.mark H.next],H.new .dfr,H.next,w1,rfl,S,e,λx hx=>?_,?_,y.2.2⟩
        . rcases zD.1 hx with rfl | hx
          . refine ⟨H.next,rfl,R.h.keeps.next,?_,hg⟩
            rw [e.fl,<-R.h.nx];exact R.ds.2.2
          . exact y.1 x hx
        . show (Dfr.mark H.next::fr.defers).Nodup
          rw [List.nodup_cons];refine ⟨λI=>?_,R.ds.2.1⟩;obtain ⟨m,h3,_,_,h4⟩:=R.ds.1 _ I;cases h3;rw [a1] at h4;cases h4
      | some l=>
        cases rd with
        | none=>exact absurd Q id
        | some id=>
          obtain ⟨a3,rfl⟩:=Q;simp only [inRound] at G;split at G
          . rename_i r' hl
            obtain ⟨_,_,g',_,s,_⟩:=R.h.cells id _ hl;obtain ⟨e,S⟩:=R.h.ext ok (m:=st.next+1) (nu':=w.nu) (Nat.le_succ _) (λ_ _=>rfl);refine ⟨[],H,g'.ld,_,?_,S,e,R.ds.mono e⟩;simp only [qj2,s];unfold qdo
            split
            . grind
            . rename_i T
              exfalso;split at T<;>exact T _ _ _ _ _ _ _ _ rfl
          . cases G
    let gl:LG:=⟨fr.tmps,fr.n,params.toList,a,b,d⟩;obtain ⟨w2,R2,z,U,D⟩:=qee ok S (ct:=.lp r) (row:=.loop .ready none fr.tmps fr.n params.toList a b d) (lp':=λi=>if i=st.next+1 then some gl else w1.lp i)
      (λi hi=>zF (by have:i<st.next+1:=hi;omega)) (λw' hw hlp=>⟨gl,by rw [hlp];exact zT rfl,by rw [e6];rfl,by rw [e2];exact R.n.symm,e3,e4,e5,λi p N=>by
        rw [e1] at N;obtain ⟨x,P,s⟩:=R.f i p N;exact ⟨x,P,(s.mono ok.len B).mono ok.len hw⟩⟩)
    have q:=B.trans z;have ry:ql X sz w2 [.yield (st.next+1)] [.func (.yield H1.next) [] []]:=by
      have hy:=Rep.yield (X:=X) (sz:=sz) (w:=w2) (id:=st.next+1) D;rw [show w2.c (st.next+1)=H1.next from U] at hy;exact .cons hy .nil
    have a2:ql X sz w2 (first++[.yield (st.next+1)]++cap) (va++[.func (.yield H1.next) [] []]++vc):=
      ql.append (ql.append (ql.mono ok.len q (ps:=first) ⟨ha,h1⟩) ry) (ql.mono ok.len q (ps:=cap) ⟨hc,h2⟩)
    refine zc7 ev hb he ((q4v ok ok2 tok hq a0 h R2 a2).mono (λ_ W hA=>?_) (λu W hA=>?_))
    . obtain ⟨_,A,w3,t,t3,n3,J,j,_⟩:=hA
      unfold zaf at t;split at t
      . rename_i r3 Y
        obtain ⟨Z,a4,g3,P,s,_⟩:=J.cells _ _ Y;have L:w3.c (st.next+1)=H1.next:=(j.c _ D).trans U
        have M:W.ro<=H1.next:=by rw [J.keeps.ro,<-L];exact zR J.rob.1 (J.cl _ Z).2.2
        rw [L] at s;have fin:∀ (ex:Ex) (o:O),(∀ l,ex≠.goto l)->qab W H1.next=some (ex,W.put H1.next o)->k ex {A with cells:=qa1 A.cells (st.next+1),tmps:=st.tmps,n:=st.n}->
            ∃ ex H4,qab W H1.next=some (ex,H4)/\zkh X sz C base w k kp ex {fr with defers:=mk++fr.defers} H4:=by
          intro ex o hg he t;obtain ⟨w4,R4,F⟩:=qu7 ok J o Y;rw [L] at R4;have e:Le w w4:=q.trans (j.trans F);exact ⟨ex,_,he,.inl ⟨hg,_,w4,t,⟨R4.alike rfl rfl rfl rfl,λi p N=>by
            obtain ⟨x,P,s⟩:=R.f i p N;exact ⟨x,P,s.mono ok.len e⟩,R.n,y.mono (z.trans (j.trans F))⟩,e⟩⟩
        split at t
        . rename_i I
          rw [I] at s;exact fin .normal _ (by simp) (by simp only [qab,s,qdo,kq M,zB,qbo,zH];rfl) t
        . rename_i I
          rw [I] at s;exact fin .ret _ (by simp) (by simp only [qab,s,qdo,kq M,zB,qbo,zH];rfl) t
        . rename_i i I
          rw [I] at s;exact fin (.exit i) _ (by simp) (by simp only [qab,s,qdo,kq M,zB,qbo,zH];rfl) t
        . exact absurd t id
      . exact absurd t id
    . obtain ⟨p,A,w3,t,t3,n3,J,j,rp⟩:=hA
      have e:Le w w3:=q.trans j;refine .inr ⟨u,p,_,w3,rfl,t,⟨(J.zeb (cs:=qa1 A.cells (st.next+1)) λ{id ct} hl=>(qhj hl).2).alike rfl rfl rfl rfl,λi p N=>?_,R.n,y.mono (z.trans j)⟩,e,rp⟩;obtain ⟨x,P,s⟩:=R.f i p N;exact ⟨x,P,s.mono ok.len e⟩
  . exact absurd h id
def QT (X:Codecs K) (sz:Nat->Nat) (T:List Dfr) (fr0:Fr) (w:Wd):Dfd Int Bool (List UInt8) Prop (λc=>List (K c))->Prop
  | none=>T=[]/\fr0.defers=[]
  | some d=>∃ a b,T=[.call ⟨.func d.1,a,b⟩]/\ql X sz w d.2.1 a/\ql X sz w d.2.2 b
theorem QT.mono {T:List Dfr} {fr0 a:Fr} {w w':Wd} (ok:CfgOk X sz C) {q:Dfd Int Bool (List UInt8) Prop (λc=>List (K c))} (h:QT X sz T fr0 w q) (hle:Le w w') (b:a.defers=fr0.defers):QT X sz T a w' q:=by
  cases q with
  | none=>exact ⟨h.1,b.trans h.2⟩
  | some d=>
    obtain ⟨e,va,f,g,i⟩:=h;exact ⟨e,va,f,g.mono ok.len hle,i.mono ok.len hle⟩
def zkg (X:Codecs K) (sz:Nat->Nat) (C:ZC K) (base:Heap) (w:Wd) (k:Dfd Int Bool (List UInt8) Prop (λc=>List (K c))->Ex->StV K->Prop)
    (b:Nat×List (PV K)×List (PV K)->PV K->StV K->Prop) (ex:Ex) (fr':Fr) (H':Heap):Prop:=
  ∃ q T fr0 a w',fr'=qbv fr0 T/\QT X sz T fr0 w' q/\Rel X sz C base a fr0 H' w'/\Le w w'/\(((∀ l,ex≠.goto l)/\k q ex a)∨∃ v d p,q=some d/\ex=.panic [⟨v,false,false⟩]/\b d p a/\Rep X sz w' p v)
theorem q2j {fr:Fr} (R:Rel X sz C base st fr H w) {c:Go.Call} {d:Nat×List (PV K)×List (PV K)} (h:q7z (qu X tbl inv meas) C st c=some d):∃ a va,qhr fr H c=some ⟨.func d.1,a,va⟩/\ql X sz w d.2.1 a/\ql X sz w d.2.2 va:=by
  unfold q7z at h;split at h
  . rename_i f b
    obtain ⟨args,e,h⟩:=zI.1 h;obtain ⟨v,i,h⟩:=zI.1 h;obtain ⟨vs,j,k⟩:=qcc R e;obtain ⟨u,l,m⟩:=qo R i;split at h
    . rename_i g first cap
      cases h;cases m with
      | @func r s t va a n o p q=>
      exact ⟨a,va++vs,by simp only [qhr,b,j,l,zB],⟨o,q⟩,ql.append ⟨n,p⟩ k⟩
    . cases h
  . cases h
theorem qzq {ops:Array Oper} {l:List Oper} {c:Go.Call} {dst:Option Tmp} (h:que ops=some (l,c,dst)):∃ o,ops.toList=l++[o]/\o.op=.defer c/\o.guard=none/\o.dst=dst/\∀ q ∈ l,qa7 q=false:=by
  unfold que at h;split at h
  . rename_i o d e
    split at h
    . rename_i i f
      rcases zz h with ⟨_,h⟩ | ⟨b,h⟩
      . cases h
      . cases h
        simp only [zA,Option.isNone_iff_eq_none] at b;have a:ops.toList=d.reverse++[o]:=by
          have:=congrArg List.reverse e;rw [List.reverse_reverse,List.reverse_cons] at this;exact this
        exact ⟨o,a,f,b.1,rfl,λq g=>by have:=List.all_eq_true.1 b.2 q g;simpa using this⟩
    . cases h
  . cases h
theorem qe4 (ok:CfgOk X sz C) (ok2:CfgOk2 X C) (tok:qcu X sz C tbl) (b:qhd X sz C inl) {fn p:Nat} {c:Code} {st:StV K} {fr0:Fr} {T:List Dfr} {H:Heap} {w:Wd} {q:Dfd Int Bool (List UInt8) Prop (λc=>List (K c))} {k:Dfd Int Bool (List UInt8) Prop (λc=>List (K c))->Ex->StV K->Prop} {i:Nat×List (PV K)×List (PV K)->PV K->StV K->Prop}
    (j:QT X sz T fr0 w q) (R:Rel X sz C base st fr0 H w) (h:if qel c then jq (qu X tbl inv meas) C inl none fn p c st (k q) else False):Wp C.E fn none c (qbv fr0 T) H (zkg X sz C base w k i):=by
  obtain ⟨l,h⟩:=cond_prop h;obtain ⟨x,⟨f,g⟩,m,d,w',n,o,a⟩:=zx (rd:=none) (round:=none) (fnE:=fn) ok ok2 tok b trivial R h;have r:=qby l (g f (zN _));exact ⟨qvy T x,⟨f,λk e=>by rw [qb9,g k e];rfl⟩,q,T,x.2.1,d,w',rfl,j.mono ok a r,o,a,.inl ⟨m,n⟩⟩
theorem qpm (ok:CfgOk X sz C) (ok2:CfgOk2 X C) (tok:qcu X sz C tbl) (x:qt C) (g:qhd X sz C inl) {fn:Nat} {kp:Nat×List (PV K)×List (PV K)->PV K->StV K->Prop}:∀ {c:Code} {p:Nat} {q:Dfd Int Bool (List UInt8) Prop (λc=>List (K c))} {st:StV K} {fr0:Fr} {T:List Dfr} {H:Heap} {w:Wd} {k:Dfd Int Bool (List UInt8) Prop (λc=>List (K c))->Ex->StV K->Prop},
    QT X sz T fr0 w q->Rel X sz C base st fr0 H w->wpT (qu X tbl inv meas) C inl fn kp p c q st k->Wp C.E fn none c (qbv fr0 T) H (zkg X sz C base w k kp)
  | .skip,p,q,st,fr0,T,H,w,k,m,R,h=>qe4 ok ok2 tok g m R h
  | .label _,p,q,st,fr0,T,H,w,k,m,R,h=>qe4 ok ok2 tok g m R h
  | .exit _,p,q,st,fr0,T,H,w,k,m,R,h=>qe4 ok ok2 tok g m R h
  | .goto _,p,q,st,fr0,T,H,w,k,m,R,h=>qe4 ok ok2 tok g m R h
  | .ret,p,q,st,fr0,T,H,w,k,m,R,h=>qe4 ok ok2 tok g m R h
  | .refuse _,p,q,st,fr0,T,H,w,k,m,R,h=>qe4 ok ok2 tok g m R h
  | .cond ..,p,q,st,fr0,T,H,w,k,m,R,h=>qe4 ok ok2 tok g m R h
  | .loop _,p,q,st,fr0,T,H,w,k,m,R,h=>qe4 ok ok2 tok g m R h
  | .scope _,p,q,st,fr0,T,H,w,k,m,R,h=>qe4 ok ok2 tok g m R h
  | .seq a b,p,q,st,fr0,T,H,w,k,m,R,h=>by
    simp only [wpT] at h;refine za ((qpm ok ok2 tok x g m R h).mono λex fr' H' j=>?_);obtain ⟨D,y,i,r,w1,rfl,s,u,e,j⟩:=j;rcases j with ⟨F,j⟩ | ⟨v,d,G,rfl,rfl,j⟩
    . cases ex with
      | normal=>
        refine (qpm ok ok2 tok x g s u j).mono λex I H2 hB=>?_;obtain ⟨q2,T2,I,st2,w2,a1,a2,a3,a4,a5⟩:=hB;exact ⟨q2,T2,I,st2,w2,a1,a2,a3,e.trans a4,a5⟩
      | _=>exact ⟨D,y,i,r,w1,rfl,s,u,e,.inl ⟨F,j⟩⟩
    . exact ⟨_,y,i,r,w1,rfl,s,u,e,.inr ⟨v,d,G,rfl,rfl,j⟩⟩
  | .block id c,p,q,st,fr0,T,H,w,k,m,R,h=>by
    simp only [wpT] at h;refine qah ((qpm ok ok2 tok x g m R h).mono λex fr' H' j=>?_);obtain ⟨D,y,i,r,w1,rfl,s,u,e,j⟩:=j;rcases j with ⟨F,j⟩ | ⟨v,d,G,rfl,rfl,j⟩
    . cases ex with
      | exit J=>
        simp only at j;cases N:Nat.beq J id with
        | true=>
          rw [N] at j;have:=zE N;subst this;exact qfb ⟨D,y,i,r,w1,rfl,s,u,e,.inl ⟨by simp,j⟩⟩
        | false=>
          rw [N] at j;have P:¬ J=id:=by
            intro he;subst he;simp at N
          exact qu4 P ⟨D,y,i,r,w1,rfl,s,u,e,.inl ⟨by simp,j⟩⟩
      | _=>exact ⟨D,y,i,r,w1,rfl,s,u,e,.inl ⟨F,j⟩⟩
    . exact ⟨_,y,i,r,w1,rfl,s,u,e,.inr ⟨v,d,G,rfl,rfl,j⟩⟩
  | .rangeFunc f O a b,p,q,st,fr0,T,H,w,k,m,R,h=>by
    cases q with
    | none=>exact h.elim
    | some d=>
      obtain ⟨v,hv,h⟩:=qf h;obtain ⟨vf,Q,rv⟩:=qo R hv;refine (zkb T (q3z (rd:=none) (round:=none) ok ok2 tok x g trivial R rfl Q rv rfl rfl rfl rfl rfl rfl h)).mono λex fr' H' j=>?_;obtain ⟨i,rfl,j⟩:=j;rcases j with ⟨F,z,w',B,S,e⟩ | ⟨v,G,z,w',rfl,B,S,e,rp⟩
      . obtain ⟨A,va,U,V,W⟩:=m
        exact ⟨some d,T,i,z,w',rfl,⟨A,va,U,V.mono ok.len e,W.mono ok.len e⟩,S,e,.inl ⟨F,B⟩⟩
      . obtain ⟨A,va,U,V,W⟩:=m
        exact ⟨some d,T,i,z,w',rfl,⟨A,va,U,V.mono ok.len e,W.mono ok.len e⟩,S,e,.inr ⟨v,d,G,rfl,rfl,B,rp⟩⟩
  | .region id ops L,p,q,st,fr0,T,H,w,k,m,R,h=>by
    simp only [wpT] at h;split at h
    . rename_i l c dst hl
      cases L with
      | true=>cases hl
      | false=>
      cases q with
      | some d=>exact h.elim
      | none=>
      obtain ⟨rfl,Y⟩:=m;obtain ⟨o,M,ho,Z,a0,a6⟩:=qzq hl;subst a0;have et:qbv fr0 []=fr0:=by
        simp only [qbv,zJ]
      rw [et];obtain ⟨⟨ex,i,H1⟩,⟨k0,B⟩,a7,r,w1,j,u,e⟩:=qjz (nd:=true) ok ok2 tok g R h;subst a7;obtain ⟨d,hd,j⟩:=qf j;obtain ⟨A,va,Q,rc,ra⟩:=q2j u hd;have a8:i.defers=[]:=(qop a6 (B k0 (zN _))).trans Y;refine qcs ⟨(.normal,(i.push ⟨.func d.1,A,va⟩).put o.dst zs,H1),⟨k0,λk a9=>?_⟩,?_⟩
      . rw [M,qor,show (none:Option Nat).isNone=true from rfl,B k a9]
        simp only [ku,ho,ky,Z,Q,zO,↓reduceIte,zB]
      . refine ⟨some d,[.call ⟨.func d.1,A,va⟩],i.put o.dst zs,_,w1,?_,⟨A,va,rfl,rc,ra⟩,u.put .undef,e,.inl ⟨by simp,j⟩⟩
        rw [<-qol];obtain ⟨t,n,ds⟩:=i;subst a8;rfl
    . exact qe4 ok ok2 tok g m R h
theorem qz3 (ok:CfgOk X sz C) (ok2:CfgOk2 X C) (tok:qcu X sz C tbl) (j:qhd X sz C inl) {d:Nat×List (PV K)×List (PV K)} {r:PV K} {v:V} {f g:List V} {md:Md} {st:StV K} {k:StV K->Prop} (R:RelH X sz C base st H w) (l:w.fl<=w.nx) (rc:ql X sz w d.2.1 f) (y:ql X sz w d.2.2 g) (z:(q6n md).1=v) (A:Rep X sz w r v)
    (h:qtn (qu X tbl inv meas) C inl d r st k):zg6 C.E ⟨.func d.1,f,g⟩ md H λH'=>∃ a w',k a/\a.tmps=st.tmps/\a.n=st.n/\RelH X sz C base a H' w'/\Le w w':=by
  unfold qtn at h;split at h
  . rename_i fi m
    split at h
    . rename_i c B
      split at h
      . rename_i t N D
        obtain ⟨o,h⟩:=cond_prop h;simp only [zA,List.isEmpty_iff] at o;have s:=ql.append y rc;have F:Rel X sz C base {st with tmps:=Tree.ofList (d.2.2++d.2.1),n:=max (d.2.2++d.2.1).length fi.ntmps} {tmps:=qbm (g++f),n:=max (g++f).length fi.ntmps,defers:=[]} H w:=by
          refine ⟨R.alike rfl rfl rfl rfl,λi p G=>?_,by rw [s.1],.nil l⟩;have b:(Tree.ofList (d.2.2++d.2.1)).get i=some p:=G;rw [Tree.qi3] at b;obtain ⟨v,I,J⟩:=s.get b;exact ⟨v,zp I,J⟩
        have u:=F.put (dst:=some t) A;rw [<-z] at u;refine q69 m B D o.1 o.2 ((zx (rd:=none) (round:=none) ok ok2 tok j trivial u h).mono λex fr' H' L=>?_);obtain ⟨_,M,w1,q,x,e⟩:=L;cases ex with
        | normal=>exact ⟨.inl rfl,_,w1,q,rfl,rfl,x.h.alike rfl rfl rfl rfl,e⟩
        | ret=>exact ⟨.inr rfl,_,w1,q,rfl,rfl,x.h.alike rfl rfl rfl rfl,e⟩
        | _=>exact absurd q id
      . exact absurd h id
    . exact absurd h id
  . exact absurd h id
theorem q7f (ok:CfgOk X sz C) (ok2:CfgOk2 X C) (tok:qcu X sz C tbl) (Y:qt C) (r:qhd X sz C inl) {f:Nat} {args:List (PV K)} {st:StV K} {k:PV K->StV K->Prop} (h:zg3 (qu X tbl inv meas) C inl f args st k) {base H:Heap} {w:Wd} {vs:List V}
    (R:RelH X sz C base st H w) (ra:ql X sz w args vs):qaa C.E (.func f) vs H λv H'=>∃ p a w',k p a/\a.tmps=st.tmps/\a.n=st.n/\RelH X sz C base a H' w'/\Le w w'/\Rep X sz w' p v:=by
  obtain ⟨s,h⟩:=qxf h;have hs:=Y.1 f s;split at h
  . rename_i fi J
    split at h
    . rename_i c hc
      have R0:=q0f ok R ra fi.ntmps;have h0:=qpm (fr0:={tmps:=qbm vs,n:=max vs.length fi.ntmps,defers:=[]}) (T:=[]) (q:=none) ok ok2 tok Y r ⟨rfl,rfl⟩ R0 h;refine q41 hs J hc (Wp.mono h0 λex fr' H' b=>?_);obtain ⟨q,T,j,l,w1,rfl,Z,t,o,b⟩:=b;obtain ⟨u,w2,L,R3,hB,M,e⟩:=qhk ok t.h (F:=w.nx) (λx N=>by
        obtain ⟨m,a1,a2,a3,a4⟩:=t.ds.1 x N;exact ⟨m,a1,a2,by rw [o.fl] at a3;exact a3,a4⟩) t.ds.2.1
      have F2:qmy X sz w2 l.tmps (qbv j T):=λi p B=>by
        obtain ⟨v,O,P⟩:=t.f i p B;exact ⟨v,O,P.qbb ok.len hB⟩
      have Q:w2.fl<=w2.nx:=by rw [M];exact zR t.ds.2.2 hB.nx
      have fin:∀ {d G v md},q=some d->(q6n md).1=v->Rep X sz w2 G v->qtn (qu X tbl inv meas) C inl d G l (λst2=>q6i (qu X tbl inv meas) C (C.keepM f) fi.results st st2 k)->
          ∃ D,T=[.call D]/\zg6 C.E D md u λI=>∃ vs,zv C.E (qbv j T) I fi.results=some vs/\∃ p a w',k p a/\a.tmps=st.tmps/\a.n=st.n/\RelH X sz C base a I w'/\Le w w'/\Rep X sz w' p (oneOf vs):=by
        rintro d G v md rfl hv S U;obtain ⟨vc,va,y,z,e3⟩:=Z;refine ⟨_,y,?_⟩;obtain ⟨I,hr,st2,w3,U,t2,n2,R4,g⟩:=qz3 ok ok2 tok r R3 Q (z.qbb ok.len hB) (e3.qbb ok.len hB) hv S U;refine ⟨I,hr,qra ok R o hB e g R4 (λi p B=>?_) U⟩;rw [t2] at B;obtain ⟨v,O,P⟩:=F2 i p B;exact ⟨v,O,P.mono ok.len g⟩
      refine ⟨j.defers,T,u,rfl,L,?_⟩;rcases b with ⟨hg,b⟩ | ⟨v,d,G,W,rfl,b,S⟩
      . have N:(ex=.normal∨ex=.ret)/\q9d (qu X tbl inv meas) C inl (C.keepM f) fi.results st q l k:=by
          cases ex with
          | normal=>simp_all
          | ret=>simp_all
          | _=>exact absurd b id
        obtain ⟨A,b⟩:=N;cases q with
        | none=>
          obtain ⟨rfl,_⟩:=Z;exact .inl ⟨rfl,A,qra ok R o hB e (.refl w2) R3 F2 b⟩
        | some d=>
          obtain ⟨D,y,z⟩:=fin (md:=.returning) rfl rfl .nili b;exact .inr ⟨D,.returning,y,.inl ⟨rfl,A⟩,z⟩
      . obtain ⟨D,y,z⟩:=fin (md:=.panicking v) W rfl (S.qbb ok.len hB) b
        exact .inr ⟨D,.panicking v,y,.inr ⟨v,rfl,rfl⟩,z⟩
    . exact absurd h id
  . exact absurd h id
theorem zb7 (ok:CfgOk X sz C) (ok2:CfgOk2 X C) (tok:qcu X sz C tbl) (a:qt C) {depth f:Nat} {args:List (PV K)} {r:PV K} (b:∀ p ∈ r.flat,RT p) (h:qtq (qu X tbl inv meas) C depth f args r):qhp X sz C f args r:=
  q5n ok ok2 (W:=λargs st k=>zg3 (qu X tbl inv meas) C (qv2 (qu X tbl inv meas) C depth) f args st k) (λh R c=>q7f ok ok2 tok a (qlh ok ok2 tok a depth) h R c) b h
theorem znx (ok:CfgOk X sz C) (ok2:CfgOk2 X C) {l:List (Nat×Ct K)} (tok:qcu X sz C (qe2 l)) (g:qt C) {inv:Nat->List (NV K)->Prop} {meas:Nat->List (NV K)->Nat} {ann:List (Nat×Nat×Ann)} {depth f:Nat} {args:List (PV K)} {r:PV K} {e:Prop}
    (i:∀ p ∈ r.flat,RT p) (a:qtq (qu X (qe2 l) inv meas) {C with ann:=qir ann} depth f args r=e) (h:e):qhp X sz C f args r:=
  zb7 (C:={C with ann:=qir ann}) (tbl:=qe2 l) (inv:=inv) (meas:=meas) (ok.ann _) (ok2.ann _) (λf b c j d r k m n=>by
    obtain ⟨o,q,s,t⟩:=tok f b c j d r k m n;exact ⟨o,q,s.ann _,t⟩) g i (a.symm ▸ h) |>.zlz
end
end Go.E3
/- E3: CODE WITH HOLES: regions and loops that are left out, to be gone through by hand; a world in which a stretch of code begins. -/
namespace Go.E3
open Go Go.E2
def qft (h:Nat->Bool):Code->List Nat
  | .region id _ _=>if h id then [id] else []
  | .loop _=>[999999]
  | .seq a b=>qft h a++qft h b
  | .cond _ a b=>qft h a++qft h b
  | .block _ a=>qft h a
  | .scope a=>qft h a
  | _=>[]
def hol (h:Nat->Bool):Code->Code
  | .region id ops d=>if h id then .exit (1000000+id) else .region id ops d
  | .loop _=>.exit 1999999
  | .seq a b=>.seq (hol h a) (hol h b)
  | .cond c a b=>.cond c (hol h a) (hol h b)
  | .block id a=>.block id (hol h a)
  | .scope a=>.scope (hol h a)
  | c=>c
def rest (h:Nat->Bool) (i:Nat):Code->Code
  | .seq a b=>if (qft h a).contains i then .seq (rest h i a) b else rest h i b
  | .cond _ a b=>if (qft h a).contains i then rest h i a else rest h i b
  | .block id a=>.block id (rest h i a)
  | .scope a=>.scope (rest h i a)
  | c=>c
section
variable {E:Env} {call:E2.Call} {fn:FuncId} {round:Option Nat} {fuel:Nat} {h:Nat->Bool}
theorem qly:∀ {c:Code} {fr:Fr} {H:Heap} {ex:Ex} {fr':Fr} {H':Heap},qag c=true->(qft h c).Nodup->qh E call fn round fuel (hol h c) fr H=some (ex,fr',H')->
    ((∀ id,ex=.exit id->id<1000000)/\qh E call fn round fuel c fr H=some (ex,fr',H'))∨
    ∃ i,i ∈ qft h c/\ex=.exit (1000000+i)/\qh E call fn round fuel c fr H=qh E call fn round fuel (rest h i c) fr' H'
  | .skip,fr,H,ex,fr',H',d,f,e=>by cases e;exact .inl ⟨by simp,rfl⟩
  | .label _,fr,H,ex,fr',H',d,f,e=>by cases e;exact .inl ⟨by simp,rfl⟩
  | .exit id,fr,H,ex,fr',H',d,f,e=>by
    cases e;exact .inl ⟨λo w=>by cases w;exact Eq.mp Nat.blt_eq d,rfl⟩
  | .goto _,fr,H,ex,fr',H',d,f,e=>by cases e;exact .inl ⟨by simp,rfl⟩
  | .ret,fr,H,ex,fr',H',d,f,e=>by cases e;exact .inl ⟨by simp,rfl⟩
  | .refuse _,fr,H,ex,fr',H',d,f,e=>by cases e
  | .rangeFunc ..,fr,H,ex,fr',H',d,f,e=>by cases d
  | .loop a,fr,H,ex,fr',H',d,f,e=>by cases e;exact .inr ⟨999999,zC,rfl,rfl⟩
  | .region id ops p,fr,H,ex,fr',H',d,f,e=>by
    simp only [hol,qft] at e ⊢;cases hi:h id with
    | true=>
      rw [hi] at e;cases e;exact .inr ⟨id,zC,rfl,rfl⟩
    | false=>
      rw [hi] at e;refine .inl ⟨λid w=>?_,e⟩;cases p with
      | true=>
        simp only [qh,zO,↓reduceIte,zQ,Bool.false_eq_true,↓reduceIte,zM] at e;obtain ⟨r,_,e⟩:=e;cases e;cases w
      | false=>
        simp only [qh,zQ,Bool.false_eq_true,↓reduceIte] at e;exact absurd w (qpd e id)
  | .seq a b,fr,H,ex,fr',H',d,f,e=>by
    simp only [qag,zA] at d;simp only [hol,qh] at e;simp only [qft] at f;have l:=f.sublist (List.sublist_append_left _ _);have m:=f.sublist (List.sublist_append_right _ _);cases j:qh E call fn round fuel (hol h a) fr H with
    | none=>rw [j] at e;cases e
    | some r=>
      obtain ⟨q,s,H1⟩:=r;rw [j] at e;rcases qly d.1 l j with ⟨t,g⟩ | ⟨i,hi,rfl,g⟩
      . cases q with
        | normal=>
          rcases qly d.2 m e with ⟨u,k⟩ | ⟨i,hi,rfl,k⟩
          . exact .inl ⟨u,by simp only [qh,g,k]⟩
          . refine .inr ⟨i,List.mem_append_right _ hi,rfl,?_⟩
            have n:(qft h a).contains i=false:=by
              rw [<-Bool.not_eq_true,List.contains_iff_mem];exact λy=>(List.nodup_append.1 f).2.2 i y i hi rfl
            simp only [rest,n,zQ,Bool.false_eq_true,↓reduceIte];simp only [qh,g,k]
        | _=>cases e;exact .inl ⟨t,by simp only [qh,g]⟩
      . cases e
        refine .inr ⟨i,List.mem_append_left _ hi,rfl,?_⟩;have n:(qft h a).contains i=true:=List.contains_iff_mem.2 hi;simp only [rest,n,zO,↓reduceIte];simp only [qh,g]
  | .cond c a b,fr,H,ex,fr',H',d,f,e=>by
    simp only [qag,zA] at d;simp only [hol,qh] at e;simp only [qft] at f;have l:=f.sublist (List.sublist_append_left _ _);have m:=f.sublist (List.sublist_append_right _ _);split at e
    . rename_i v
      rcases qly d.1 l e with ⟨u,k⟩ | ⟨i,hi,rfl,k⟩
      . exact .inl ⟨u,by simp only [qh,v,k]⟩
      . refine .inr ⟨i,List.mem_append_left _ hi,rfl,?_⟩
        have n:(qft h a).contains i=true:=List.contains_iff_mem.2 hi;simp only [rest,n,zO,↓reduceIte];simp only [qh,v,k]
    . rename_i v
      rcases qly d.2 m e with ⟨u,k⟩ | ⟨i,hi,rfl,k⟩
      . exact .inl ⟨u,by simp only [qh,v,k]⟩
      . refine .inr ⟨i,List.mem_append_right _ hi,rfl,?_⟩
        have n:(qft h a).contains i=false:=by
          rw [<-Bool.not_eq_true,List.contains_iff_mem];exact λy=>(List.nodup_append.1 f).2.2 i y i hi rfl
        simp only [rest,n,zQ,Bool.false_eq_true,↓reduceIte];simp only [qh,v,k]
    . cases e
  | .block id a,fr,H,ex,fr',H',d,f,e=>by
    simp only [qag,zA,Nat.blt_eq] at d;simp only [hol,qh] at e;cases j:qh E call fn round fuel (hol h a) fr H with
    | none=>rw [j] at e;cases e
    | some r=>
      obtain ⟨q,s,H1⟩:=r;rw [j] at e;rcases qly d.2 f j with ⟨t,g⟩ | ⟨i,hi,rfl,g⟩
      . refine .inl ⟨?_,by simp only [qh,g];exact e⟩
        cases q with
        | exit o=>
          simp only at e;cases x:Nat.beq o id with
          | true=>rw [x] at e;cases e;simp
          | false=>rw [x] at e;cases e;exact t
        | _=>cases e;simp
      . simp only at e
        have x:Nat.beq (1000000+i) id=false:=by rw [<-Bool.not_eq_true,Nat.beq_eq];omega
        rw [x] at e;cases e;exact .inr ⟨i,hi,rfl,by simp only [rest,qh,g]⟩
  | .scope a,fr,H,ex,fr',H',d,f,e=>by
    simp only [qag] at d;simp only [hol,qh] at e;cases j:qh E call fn round fuel (hol h a) fr H with
    | none=>rw [j] at e;cases e
    | some r=>
      obtain ⟨q,s,H1⟩:=r;rw [j] at e;rcases qly d f j with ⟨t,g⟩ | ⟨i,hi,rfl,g⟩
      . refine .inl ⟨?_,by simp only [qh,g];exact e⟩
        cases q<;>cases e<;>first | exact t | simp
      . cases e
        exact .inr ⟨i,hi,rfl,by simp only [rest,qh,g]⟩
theorem zrb {c:Code} {fr:Fr} {H:Heap} {Q e:Ex->Fr->Heap->Prop} (f:qag c=true) (g:(qft h c).Nodup) (hw:Wp E fn round (hol h c) fr H Q) (r:∀ ex fr' H',(∀ id,ex=.exit id->id<1000000)->Q ex fr' H'->e ex fr' H')
    (s:∀ i ∈ qft h c,∀ fr' H',Q (.exit (1000000+i)) fr' H'->Wp E fn round (rest h i c) fr' H' e):Wp E fn round c fr H e:=by
  obtain ⟨⟨ex,fr',H'⟩,⟨l,m⟩,q⟩:=hw;rcases qly f g (m l (zN _)) with ⟨d,_⟩ | ⟨i,hi,a,_⟩
  . refine ⟨(ex,fr',H'),⟨l,λk b=>?_⟩,r _ _ _ d q⟩
    rcases qly f g (m k b) with ⟨_,n⟩ | ⟨j,_,a,_⟩
    . exact n
    . have:=d _ a;omega
  . have a:ex=.exit (1000000+i):=a
    subst a;obtain ⟨x,⟨t,o⟩,p⟩:=s i hi fr' H' q;refine ⟨x,⟨max l t,λk b=>?_⟩,p⟩;rcases qly f g (m k (by omega)) with ⟨d,_⟩ | ⟨j,_,a,n⟩
    . have:=d _ rfl;omega
    . have:j=i:=by simp only [Ex.exit.injEq] at a;omega
      subst this;rw [n];exact o k (by omega)
end
section
variable {K:Nat->Type} {X:Codecs K} {sz:Nat->Nat} {C:ZC K} {H0 H:Heap} {M:Nat->Prop}
def wdS (C:ZC K) (H0 H:Heap) (M:Nat->Prop) (st:StV K) (c:Nat->Nat) (eta:Nat->Option Nat):Wd:=
  {g:=H.get,M:=M,c:=c,nu:=λ_=>false,n:=st.next,owns:=λi=>look st.owns i,eta:=eta,ce:=C.codec,cl:=λid=>look st.cells id≠none,nx:=H.next,b:=H0.next,lp:=λ_=>none,fl:=0}
theorem zey (j:Keeps H0 H) (wf:∀ n,H0.next<=n->H0.get n=none) {k:Nat->Prop} {st:StV K} {c:Nat->Nat} {eta:Nat->Option Nat} (l:∀ n,n<H0.next->(k n↔M n)):LeB (wd0 H0 M C.codec) (wdS C H0 H k st c eta):=by
  refine ⟨Nat.zero_le _,λnm cs e d b f ex g m=>?_,λid h=>(by cases h),λid h=>(by cases h),λid h=>(by cases h),λid _ _ h=>(by cases h),λid _ h=>(by cases h),rfl,λid h=>(by cases h),j.next,rfl,λn o i=>(l n o).2 i,λid h=>(by cases h)⟩;have g:H0.get nm=some (.row cs e d b f ex):=g;have a:nm<H0.next:=by
    by_cases a:nm<H0.next
    . exact a
    . rw [wf nm (by omega)] at g;cases g
  exact ⟨λi=>m ((l nm a).1 i),[],d,f,ex,by rw [zJ];exact (j.old nm a).trans g⟩
theorem za3 (ok:CfgOk X sz C) (S:Start X sz C H0 M) (kp:Keeps H0 H) (wf:∀ n,H.next<=n->H.get n=none) {e:Nat->Prop} {st:StV K} {c:Nat->Nat} {eta:Nat->Option Nat} (t:st.known=[]) (u:1<=st.next)
    (v:∀ n,n<H0.next->(e n↔M n)) (l:∀ n,e n->n<H.next) (f:∀ id ct,look st.cells id=some ct->id<st.next/\c id<H.next/\H0.next<=c id/\e (c id)/\qbq X sz (wdS C H0 H e st c eta) id ct (H.get (c id)))
    (m:∀ id d,look st.cells id≠none->look st.cells d≠none->c id=c d->id=d) (g:∀ i s,look st.owns i=some s->i<st.next) (h:∀ i nm,eta i=some nm->H0.next<=nm/\nm<H.next/\¬ e nm) (k:∀ i j nm,eta i=some nm->eta j=some nm->i=j) :
    RelH X sz C H0 st H (wdS C H0 H e st c eta):=by
  refine ⟨wf,S.ro,rfl,rfl,rfl,l,rfl,u,kp,λid w=>?_,m,λid ct a=>?_,λ_=>rfl,g,λi s nm _ x=>h i nm x,λi j _ _ nm _ _ y z=>k i j nm y z,rfl,λid b a=>(by rw [t] at a;cases a),λgn ps A=>?_⟩
  . cases a:look st.cells id with
    | none=>exact absurd a w
    | some ct=>
      obtain ⟨p,q,r,_⟩:=f id ct a;exact ⟨p,q,r⟩
  . obtain ⟨p,q,r,B,D⟩:=f id ct a
    exact ⟨by show look st.cells id≠none;rw [a];simp,B,D⟩
  . obtain ⟨E,o,F,fl,G,ex',I,J,L⟩:=S.globs gn ps A
    exact ⟨E,o,F,fl,G,ex',I,J,L.qbb ok.len (zey kp S.wf v)⟩
end
end Go.E3
/- E3: ONE MORE ELEMENT of one cell, for what is gone through by hand. -/
namespace Go.E3
open Go Go.E2
section
variable {H:Heap} {e e':TypeId} {b a:Nat} {p:V} {ex:Bool}
theorem q0e (h:H.get a=some (.row [p] e' 0 0 0 ex)) (b:isHole p=false):km H 1 (.slice a 0 0 1 1 (some 1))=some (1,[p]):=by
  simp [km,V.qb2,qcj,zq,h,qef,b];rfl
theorem zg9 (f:b<=1024) (h:H.get a=some (.row [p] e' 0 0 0 ex)) (d:isHole p=false):kv H e 1 b .nils (.slice a 0 0 1 1 (some 1))=some (.slice H.next 0 0 1 1 none,H.new (.row [p] e 0 0 0 false)):=by
  have c:Nat.ble (1 * b) room=true:=by rw [Nat.ble_eq];simp only [room];omega
  simp only [zB,kv,V.qb2,jt,q0e h d,c];rfl
theorem zha {nm g:Nat} {cs:List V} (d:b<=1024) (h:H.get a=some (.row [p] e' 0 0 0 ex)) (f:isHole p=false) (i:p.jg=true) (j:H.get nm=some (.row cs e g 0 0 false)) (r:cs.length<100000000000) (k:H.ro<=nm) :
    kv H e 1 b (.slice nm g 0 cs.length 1 none) (.slice a 0 0 1 1 (some 1))=some (.slice nm (g+1) 0 (cs.length+1) 1 none,H.put nm (.row (cs++[p]) e (g+1) 0 0 false)):=by
  have l:Nat.ble ((cs.length+1) * b) room=true:=by
    rw [Nat.ble_eq];have:(cs.length+1) * b<=100000000000 * 1024:=Nat.mul_le_mul (by omega) d;simp only [room];omega
  have m:Nat.ble (cs.length+1) room=true:=by rw [Nat.ble_eq];simp only [room];omega
  have c:H.upd nm (.row (cs++[p]) e (g+1) 0 0 false)=some (H.put nm (.row (cs++[p]) e (g+1) 0 0 false)):=kq k;have n:Nat.ble 0 cs.length=true:=by rw [Nat.ble_eq];exact Nat.zero_le _
  have o:Nat.ble 0 g=true:=by rw [Nat.ble_eq];exact Nat.zero_le _
  have q:Nat.beq 1 0=false:=rfl;simp [kv,V.qb2,jt,q0e h f,l,m,j,i,c,n,o,q]
end
end Go.E3
namespace Go.E3
open Go Go.E2
def qqh (i:Nat):Code->Option Code
  | .region id ops d=>if Nat.beq id i then some (.region id ops d) else none
  | .seq a b=>(qqh i a).orElse λ_=>qqh i b
  | .cond _ a b=>(qqh i a).orElse λ_=>qqh i b
  | .block _ a=>qqh i a
  | .scope a=>qqh i a
  | .loop a=>qqh i a
  | .rangeFunc _ _ a b=>(qqh i a).orElse λ_=>qqh i b
  | _=>none
def qm8:Op->Bool
  | .defer _=>true
  | _=>false
def jo:Code->Option (List (Option Tmp×Op))
  | .region _ ops false=>if ops.toList.all (λo=>o.guard.isNone&&!qm8 o.op) then some (ops.toList.map λo=>(o.dst,o.op)) else none
  | _=>none
def norm (x:Option Tmp×Op):Oper:={dst:=x.1,op:=x.2,type:=0,pos:= "",after:=#[],guard:=none}
section
variable {E:Env} {fn:FuncId} {nd:Bool} {all:Array Oper} {Q:Ex->Fr->Heap->Prop}
theorem qhb (o:Oper):qa7 o=qm8 o.op:=by
  unfold qa7 qm8;cases o.op<;>rfl
theorem q0h (o:Oper) (fr:Fr) (H:Heap):zb E o fr H=zb E (norm (o.dst,o.op)) fr H:=by
  rfl
theorem qoq {call:E2.Call}:∀ {l:List Oper} {fr:Fr} {H:Heap},(∀ o ∈ l,o.guard=none/\qm8 o.op=false)->ku E call nd all l fr H=ku E call nd #[] (l.map λo=>norm (o.dst,o.op)) fr H
  | [],_,_,_=>rfl
  | o::l,fr,H,h=>by
    obtain ⟨b,a⟩:=h o zC;have c:∀ fr H,_:=λfr H=>qoq (call:=call) (l:=l) (fr:=fr) (H:=H) λq d=>h q (zG _ d);rw [List.map_cons,qfy (by rw [qhb];exact a),qfy (by rw [qhb];exact a)];have e:j8 E call all o fr H=j8 E call #[] (norm (o.dst,o.op)) fr H:=by
      simp only [j8,ky,b,q0h o];rfl
    rw [e];split
    . exact c _ _
    . rfl
    . rfl
theorem zt {c:Code} {L:List (Option Tmp×Op)} {fr:Fr} {H:Heap} (h:jo c=some L) (k:WpO E true #[] (L.map norm) fr H Q):Wp E fn none c fr H Q:=by
  unfold jo at h;split at h
  . rename_i id ops
    rcases zz h with ⟨_,h⟩ | ⟨b,h⟩
    . cases h
    . obtain ⟨x,⟨d,e⟩,f⟩:=k
      cases h;refine qcs ⟨x,⟨d,λk a=>?_⟩,f⟩;rw [show (none:Option Nat).isNone=true from rfl,qoq (λo g=>by
        have:=List.all_eq_true.1 b o g;simpa using this)]
      have:=e k a;rw [List.map_map] at this;exact this
  . cases h
theorem qbg {o:Oper} {l:List Oper} {a:Op} {d:Nat} {v:V} {fr:Fr} {H H':Heap} (he:o.op=a/\o.dst=some d/\o.guard=none) (b:qm8 a=false) (c:d<fr.n) (h:zb E o fr H=some (.val v,H'))
    (k:∀ fr',Upd fr d v fr'->WpO E nd all l fr' H' Q):WpO E nd all (o::l) fr H Q:=
  q4f (by rw [qhb,he.1];exact b) (qdk he.2.2) he.2.1 c h k
theorem go1 {op:Op} {d:Nat} {l:List Oper} {v:V} {fr:Fr} {H H':Heap} (a:qm8 op=false) (b:d<fr.n) (h:zb E (norm (some d,op)) fr H=some (.val v,H')) (k:∀ fr',Upd fr d v fr'->WpO E nd all l fr' H' Q):WpO E nd all (norm (some d,op)::l) fr H Q:=
  qbg ⟨rfl,rfl,rfl⟩ a b h k
theorem qx3 {op:Op} {d:Nat} {l:List Oper} {t:Tgt} {args:List V} {fr:Fr} {H:Heap} (a:qm8 op=false) (b:d<fr.n) (h:zb E (norm (some d,op)) fr H=some (.call t args,H)) {R:V->Heap->Prop} (c:qaa E t args H R) (k:∀ v H',R v H'->∀ fr',Upd fr d v fr'->WpO E nd all l fr' H' Q):WpO E nd all (norm (some d,op)::l) fr H Q:=
  zbo (by rw [qhb];exact a) (qdk rfl) rfl b h c k
theorem zn8 {op:Op} {l:List Oper} {fr:Fr} {H H':Heap} (a:qm8 op=false) (h:zb E (norm (none,op)) fr H=some (.skip,H')) (k:WpO E nd all l fr H' Q):WpO E nd all (norm (none,op)::l) fr H Q:=
  zj9 (by rw [qhb];exact a) (qdk rfl) rfl h k
theorem zu6 {op:Op} {l:List Oper} {v:V} {fr:Fr} {H H':Heap} (a:qm8 op=false) (h:zb E (norm (none,op)) fr H=some (.val v,H')) (k:WpO E nd all l fr H' Q):WpO E nd all (norm (none,op)::l) fr H Q:=
  qhc (by rw [qhb];exact a) (qdk rfl) h k
end
end Go.E3
/- E3: A LIST THAT WAS BEGUN FROM NIL, handed over so that its elements may be written to. -/
namespace Go.E3
open Go Go.E2
variable {K:Nat->Type}
section
variable {X:Codecs K} {sz:Nat->Nat} {C:ZC K} {base H:Heap} {st:StV K} {w:Wd}
variable {tbl:Tbl K} {inv:Nat->List (NV K)->Prop} {meas:Nat->List (NV K)->Nat} {inl:ZI K}
def q7g (X:Codecs K) (sz:Nat->Nat) (C:ZC K) (f:Nat) (args:List (PV K)) (c:Nat) (l:List (K c)) (e:Int):Prop:=
  ∀ (H:Heap) (M:Nat->Prop) (vs:List V),Start X sz C H M->ql X sz (wd0 H M C.codec) args vs->qaa C.E (.func f) vs H λv H'=>Keeps H H'/\(∀ n,H'.next<=n->H'.get n=none)/\∃ u w',v=.tuple [u,.int .i64 e]/\w'.g=H'.get/\(∀ n,M n->w'.M n)/\
    ((u=.nils/\l=[])∨∃ nm g cs e fl ex,u=.slice nm g 0 l.length (sz c) none/\H.next<=nm/\H'.get nm=some (.row cs e g fl 0 ex)/\fl<=g/\cs.length=l.length * sz c/\
      ∀ i (h:i<l.length) (j:Nat) (p:PV K),(X.cells c (l[i]'h))[j]? = some p->Rep X sz w' p (cs.getD (i * sz c+j) zs))
theorem Start.next (ok:CfgOk X sz C) (ok2:CfgOk2 X C) {H H':Heap} {M j:Nat->Prop} (S:Start X sz C H M) (b:Keeps H H') (wf:∀ n,H'.next<=n->H'.get n=none) (p:∀ n,n<H.next->(j n↔M n)) (r:∀ n,j n->n<H'.next):Start X sz C H' j:=by
  refine ⟨wf,⟨by rw [b.ro];exact zR S.ro.1 b.next,b.qp.trans S.ro.2.1,λgn o h=>?_⟩,r,λgn ps h=>?_⟩
  . obtain ⟨i,m⟩:=S.ro.2.2 gn o h
    exact ⟨(b.old gn m).trans i,zL m b.next⟩
  . obtain ⟨s,vs,e,fl,t,ex,u,q,v⟩:=S.globs gn ps h
    exact ⟨by rw [b.qp];exact s,vs,e,fl,t,ex,(b.old gn q).trans u,zL q b.next,v.qyo ok.len ok2.plain (start_mem S b p) (.eptr (ok2.qp gn ps h))⟩
 where
  start_mem (S:Start X sz C H M) (b:Keeps H H') (p:∀ n,n<H.next->(j n↔M n)):∀ nm cs e c a d ex,(wd0 H M C.codec).g nm=some (.row cs e c a d ex)->¬ (wd0 H M C.codec).M nm->¬ (wd0 H' j C.codec).M nm/\∃ cs2 k l ex',(wd0 H' j C.codec).g nm=some (.row (cs++cs2) e k a l ex'):=λnm cs e c a d ex i m=>by
    have i:H.get nm=some (.row cs e c a d ex):=i;have f:nm<H.next:=by
      by_cases f:nm<H.next
      . exact f
      . rw [S.wf nm (by omega)] at i;cases i
    exact ⟨λh=>m ((p nm f).1 h),[],c,d,ex,by rw [zJ];exact (b.old nm f).trans i⟩
theorem Start.rep (ok:CfgOk X sz C) (ok2:CfgOk2 X C) {H H':Heap} {M a:Nat->Prop} (S:Start X sz C H M) (b:Keeps H H') (c:∀ n,n<H.next->(a n↔M n)) {p:PV K} {v:V} (d:Plain p) (r:Rep X sz (wd0 H M C.codec) p v):Rep X sz (wd0 H' a C.codec) p v:=
  r.qyo ok.len ok2.plain (Start.next.start_mem S b c) d
end
end Go.E3
/- THE THUNKED ALGEBRA of E3: numbers, lists and propositions stand below a lambda, where 'cbv' leaves them as they are. -/
namespace Go.E3
open Go Go.E2
abbrev PT (K:Nat->Type):=P (Unit->Int) (Unit->Bool) (Unit->List UInt8) (Unit->Prop) (λc=>Unit->List (K c))
abbrev NT (K:Nat->Type):=N (Unit->Int) (Unit->Bool) (Unit->List UInt8) (λc=>Unit->List (K c))
abbrev zuy (K:Nat->Type):=Alg (Unit->Int) (Unit->Bool) (Unit->List UInt8) (Unit->Prop) (λc=>Unit->List (K c)) (λc=>Unit->K c)
abbrev q4i (K:Nat->Type):=Cfg (Unit->Int) (Unit->Bool) (Unit->List UInt8) (Unit->Prop) (λc=>Unit->List (K c))
abbrev CtT (K:Nat->Type):=List Sh×(List (NT K)->Option ((Unit->Prop)×PT K))
structure CodecsT (K:Nat->Type) where
  inh:(c:Nat)->Unit->Inhabited (K c)
  u8:K 0=UInt8
  cells:(c:Nat)->(Unit->K c)->List (PT K)
  pack:(c:Nat)->List (PT K)->Option ((Unit->Prop)×(Unit->K c))
universe u
variable {K:Nat->Type}
def later (g:Unit->Prop):Unit->Prop:=g
def zsu (op:BinOp) (k:IntKind) (a b:Unit->Int):Option ((Unit->Prop)×(Unit->Int)):=
  match op with
  | .add=>some (λ_=>InK k (a ()+b ()),λ_=>a ()+b ())
  | .sub=>some (λ_=>InK k (a ()-b ()),λ_=>a ()-b ())
  | .mul=>some (λ_=>InK k (a () * b ()),λ_=>a () * b ())
  | .quo=>some (λ_=>b ()≠0/\InK k ((a ()).tdiv (b ())),λ_=>(a ()).tdiv (b ()))
  | .rem=>some (λ_=>b ()≠0,λ_=>(a ()).tmod (b ()))
  | _=>none
def zok (op:BinOp) (a b:Unit->Int):Option ((Unit->Bool)×(Unit->Prop)×(Unit->Prop)):=
  match op with
  | .eql=>some (λ_=>decide (a ()=b ()),λ_=>a ()=b (),λ_=>a ()≠b ())
  | .neq=>some (λ_=>decide (a ()≠b ()),λ_=>a ()≠b (),λ_=>a ()=b ())
  | .lss=>some (λ_=>decide (a ()<b ()),λ_=>a ()<b (),λ_=>b ()<=a ())
  | .leq=>some (λ_=>decide (a ()<=b ()),λ_=>a ()<=b (),λ_=>b ()<a ())
  | .gtr=>some (λ_=>decide (b ()<a ()),λ_=>b ()<a (),λ_=>a ()<=b ())
  | .geq=>some (λ_=>decide (b ()<=a ()),λ_=>b ()<=a (),λ_=>a ()<b ())
  | _=>none
def zqd (op:BinOp) (a b:Unit->List UInt8):Option ((Unit->Bool)×(Unit->Prop)×(Unit->Prop)):=
  match op with
  | .eql=>some (λ_=>decide (a ()=b ()),λ_=>a ()=b (),λ_=>a ()≠b ())
  | .neq=>some (λ_=>decide (a ()≠b ()),λ_=>a ()≠b (),λ_=>a ()=b ())
  | .lss=>some (λ_=>qal (a ()) (b ()),λ_=>qal (a ()) (b ())=true,λ_=>qal (a ()) (b ())=false)
  | _=>none
def zdi:List ((Unit->Bool)×(Unit->Prop)×(Unit->Prop))->(Unit->Bool)×(Unit->Prop)×(Unit->Prop)
  | []=>(λ_=>true,λ_=>True,λ_=>False)
  | [c]=>c
  | c::cs=>let r:=zdi cs;(λ_=>c.1 ()&&r.1 (),λ_=>c.2.1 ()/\r.2.1 (),λ_=>c.2.2 ()∨r.2.2 ())
def zlu {α:Type} (l:Unit->List α) (lo hi:Option (Unit->Int)):(Unit->Prop)×(Unit->List α):=
  match lo,hi with
  | none,none=>(λ_=>True,l)
  | some i,none=>(λ_=>0<=i ()/\i ()<=ln (l ()),λ_=>fr (l ()) (i ()))
  | none,some j=>(λ_=>0<=j ()/\j ()<=ln (l ()),λ_=>upto (l ()) (j ()))
  | some i,some j=>(λ_=>0<=i ()/\i ()<=j ()/\j ()<=ln (l ()),λ_=>sub (l ()) (i ()) (j ()))
def q29 {α:Type}:List (Unit->α)->List α
  | []=>[]
  | x::l=>x ()::q29 l
def zrj (p q:Unit->Prop):Unit->Prop:=id (λ_=>p ()/\q ())
def zlm (p q:Unit->Prop):Unit->Prop:=id (λ_=>p ()->q ())
def zom (k:IntKind) (n:Unit->Int):(Unit->Prop)×(Unit->Int):=(λ_=>InK k (-n ()),λ_=>-n ())
def zh9 (k:IntKind) (n:Unit->Int):(Unit->Prop)×(Unit->Int):=(λ_=>InK k (n ()),n)
def zh8 (c:Bool) (a b:Unit->Int):Unit->Int:=match c with
  | true=>λ_=>if b () > a () then b () else a ()
  | false=>λ_=>if b ()<a () then b () else a ()
def zrm (a b:Unit->Bool):(Unit->Bool)×(Unit->Prop)×(Unit->Prop):=(λ_=>a () == b (),λ_=>a ()=b (),λ_=>a ()≠b ())
def zmb (b:Unit->Bool):(Unit->Prop)×(Unit->Prop):=(λ_=>b ()=true,λ_=>b ()=false)
def zko {α:Type} (a b:Unit->List α):(Unit->Prop)×(Unit->List α):=(λ_=>qrj ((a ()).length+(b ()).length),λ_=>a ()++b ())
def zto {α:Type} (a:Unit->List α):Unit->Int:=id (λ_=>ln (a ()))
def zu0 (s:Unit->List UInt8) (i:Unit->Int):Unit->Int:=id (λ_=>bx (s ()) (i ()))
def ztp {α:Type} (l:List (Unit->α)):Unit->List α:=id (λ_=>q29 l)
def zsg {α:Type} (d:Unit->Inhabited α) (l:Unit->List α) (i:Unit->Int):Unit->α:=id (λ_=>@ix α (d ()) (l ()) (i ()))
def zuc {α:Type} (l:Unit->List α) (i:Unit->Int) (x:Unit->α):Unit->List α:=id (λ_=>(l ()).set (i ()).toNat (x ()))
def zty {α:Type} (x:Unit->α) (n:Unit->Int):Unit->List α:=id (λ_=>List.replicate (n ()).toNat (x ()))
def zu9 (a b:Unit->Int):Unit->Prop:=id (λ_=>a ()<=b ())
def zvy (i n:Unit->Int):Unit->Prop:=id (λ_=>Wn (i ()) (n ()))
def zhz {α:Type} (a b:Unit->α):Unit->Prop:=id (λ_=>a ()=b ())
def zva (a b:Unit->Nat):Unit->Prop:=id (λ_=>a ()<b ())
def q9k {α:Type} (g:(Unit->α)->Unit->Prop):Unit->Prop:=id (λ_=>∀ n:α,later (g λ_=>n) ())
def zr0 (meas:Nat->List (NT K)->Unit->Nat) (j:Nat) (a ms:List (NT K)):Unit->Prop:=zva (meas j a) (meas j ms)
def zol (a:Bool) (p:Unit->Prop) (q:Unit->Unit->Prop):Unit->Prop:=match a with
  | true=>id (λ_=>p ()->later (q ()) ())
  | false=>zlm p (q ())
def ztl (a:Bool) (q:Unit->Unit->Prop):Unit->Prop:=match a with
  | true=>id (λ_=>later (q ()) ())
  | false=>q ()
def thA (d:Bool) (X:CodecsT K) (a:Codecs K) (tbl:Nat->Option (CtT K)) (inv:Nat->List (NT K)->Unit->Prop) (meas:Nat->List (NT K)->Unit->Nat):zuy K where
  ff _:=λ_=>False
  tt:=λ_=>True
  and:=zrj
  imp:=zlm
  impL:=zol d
  lat:=ztl d
  ilit n:=λ_=>n
  iop:=zsu
  icmp:=zok
  ineg:=zom
  iconv:=zh9
  ibest:=zh8
  blit b:=λ_=>b
  bnot b:=λ_=>!b ()
  beq:=zrm
  braw:=zmb
  ball:=zdi
  slit s:=λ_=>s
  scat:=zko
  scmp:=zqd
  slen:=zto
  sget:=zu0
  ssub:=zlu
  lof _:=ztp
  llen _:=zto
  lget c:=zsg (X.inh c)
  lsub _:=zlu
  lcat _:=zko
  lset _:=zuc
  lrep _:=zty
  leI:=zu9
  sbytes s:=λ_=>X.u8 ▸ s ()
  bstr l:=λ_=>X.u8 ▸ l ()
  within:=zvy
  eqI:=zhz
  eqB:=zhz
  eqS:=zhz
  eqL _:=zhz
  allI _:=q9k
  allB:=q9k
  allS:=q9k
  allL _:=q9k
  inv:=inv
  dec:=zr0 meas
  fn:=tbl
  cells:=X.cells
  pack:=X.pack
  mhas c kn l y:=λ_=>qq2 a c kn (l ()) (y ())
  mget c kn l y:=λ_=>qjn a c kn (l ()) (y ())
  mput c kn l y:=λ_=>qld a c kn (l ()) (y ())
  srune s n:=λ_=>zlt (s ()) (n ())
  snext s n:=λ_=>zbb (s ()) (n ())
def zjx:List (Nat×CtT K)->Nat->Option (CtT K)
  | [],_=>none
  | (f,c)::l,g=>if f=g then some c else zjx l g
def qbt (k:IntKind):PT K->Option (Unit->Int)
  | .int a _ n=>if k=a then some n else none
  | _=>none
def zaa:PT K->Option (Unit->Bool)
  | .lit b=>some λ_=>b
  | .sb _ _ b _ _=>some b
  | _=>none
theorem zst (n:Nat):Int.ofNat n=(n:Int):=rfl
theorem lnc {α:Type} (l:List α):Int.ofNat l.length=ln l:=rfl
theorem ztq (n:Nat):@NatCast.natCast Int instNatCastInt n=Int.ofNat n:=rfl
structure qkw (p:Unit->Prop):Prop where
  h:p ()
structure Im (a b:Prop):Prop where
  h:a->b
theorem Im.now {p:Unit->Prop} {q:Prop} (h:Im (p ()) q):Im (qkw p) q:=⟨λx=>h.h x.h⟩
theorem Im.late {g:Unit->Prop} {q:Prop} (h:Im (qkw g) q):Im (later g ()) q:=⟨λx=>h.h ⟨x⟩⟩
theorem Im.and {a b c d:Prop} (h:Im a c) (k:Im b d):Im (a/\b) (c/\d):=⟨λx=>⟨h.h x.1,k.h x.2⟩⟩
theorem Im.all {α:Sort u} {p q:α->Prop} (h:∀ x,Im (p x) (q x)):Im (∀ x,p x) (∀ x,q x):=⟨λf x=>(h x).h (f x)⟩
theorem Im.leaf {a:Prop}:Im a a:=⟨id⟩
structure Ph (T P:Prop):Prop where
  h:P
def Aux (T S:Prop):Prop:=∃ w:Prop,∀ A B:Prop,A=T->B=S->Ph A (w=B/\w)
theorem Aux.h {T S:Prop}:Aux T S->S
  | ⟨_,h⟩=>(h T S rfl rfl).h.1 ▸ (h T S rfl rfl).h.2
def Tag (_ _:Prop):Prop:=True
theorem Tag.k {T w:Prop} (b:Prop) (_:∀ A:Prop,A=T->b=w):Tag T w:=trivial
theorem Aux.of {T S w:Prop} (hw:w) (a:w=S):Aux T S:=⟨w,λ_ _ _ b=>⟨a.trans b.symm,hw⟩⟩
def wpH (a:Bool) (X:CodecsT K) (b:Codecs K) (l:List (Nat×CtT K)) (inv:Nat->List (NT K)->Unit->Prop) (meas:Nat->List (NT K)->Unit->Nat) (C:q4i K) (ann:List (Nat×Nat×Ann)) (depth f:Nat) (args:List (PT K)) (r:PT K):Unit->Prop:=
  qtp (thA a X b (zjx l) inv meas) {C with ann:=qir ann} depth f args r
end Go.E3
/- CONTRACTS WITH TYPED ARGUMENTS, their conditions by the thunked algebra: qa6. -/
namespace Go.E3
open Go Go.E2
variable {K:Nat->Type}
mutual
def plP:PT K->PV K
  | .int k l n=>.int k l (n ())
  | .lit b=>.lit b
  | .sb id neg b a d=>.sb id neg (b ()) (a ()) (d ())
  | .str s=>.str (s ())
  | .list c l own=>.list c (l ()) own
  | .nils=>.nils
  | .mlist id c fx n=>.mlist id c fx (n ())
  | .nilf=>.nilf
  | .nili=>.nili
  | .func f _ _=>.func f [] []
  | .agg l=>.agg (q8v l)
  | .tuple l=>.tuple (q8v l)
  | .plist e n fx l=>.plist e n fx (q8v l)
  | _=>.nilp
def q8v:List (PT K)->List (PV K)
  | []=>[]
  | p::l=>plP p::q8v l
end
def thN:NV K->NT K
  | .i n=>.i λ_=>n
  | .b b=>.b λ_=>b
  | .s s=>.s λ_=>s
  | .l c l=>.l c λ_=>l
def qre:List (NV K)->List (NT K)
  | []=>[]
  | n::l=>thN n::qre l
def qd0:List Sh->List SK
  | []=>[]
  | .one k::l=>k::qd0 l
  | .agg ks::l=>ks++qd0 l
def TyV (K:Nat->Type):SK->Type
  | .int _=>Int
  | .bool=>Bool
  | .str=>List UInt8
  | .list c _ _=>List (K c)
  | .keep=>Unit
def qkz (K:Nat->Type):List SK->Type
  | []=>Unit
  | k::ks=>TyV K k×qkz K ks
def TyT (K:Nat->Type):SK->Type
  | .int _=>Unit->Int
  | .bool=>Unit->Bool
  | .str=>Unit->List UInt8
  | .list c _ _=>Unit->List (K c)
  | .keep=>Unit
def q7l (K:Nat->Type):List SK->Type
  | []=>Unit
  | k::ks=>TyT K k×q7l K ks
def thY:(ks:List SK)->qkz K ks->q7l K ks
  | [],_=>()
  | .int _::ks,v=>(λ_=>v.1,thY ks v.2)
  | .bool::ks,v=>(λ_=>v.1,thY ks v.2)
  | .str::ks,v=>(λ_=>v.1,thY ks v.2)
  | .list _ _ _::ks,v=>(λ_=>v.1,thY ks v.2)
  | .keep::ks,v=>((),thY ks v.2)
def nsV:(ks:List SK)->qkz K ks->List (NV K)
  | [],_=>[]
  | .int _::ks,v=>.i v.1::nsV ks v.2
  | .bool::ks,v=>.b v.1::nsV ks v.2
  | .str::ks,v=>.s v.1::nsV ks v.2
  | .list c _ _::ks,v=>.l c v.1::nsV ks v.2
  | .keep::ks,v=>nsV ks v.2
def qgx:(ks:List SK)->List (NT K)->Option (q7l K ks)
  | [],[]=>some ()
  | .int _::ks,.i n::a=>(qgx ks a).map λr=>(n,r)
  | .bool::ks,.b n::a=>(qgx ks a).map λr=>(n,r)
  | .str::ks,.s n::a=>(qgx ks a).map λr=>(n,r)
  | .list c _ _::ks,.l d l::a=>if h:d=c then (qgx ks a).map λr=>(h ▸ l,r) else none
  | _,_=>none
def j7:List (List (NT K)->Unit->Prop)->Nat->List (NT K)->Unit->Prop
  | [],_,_=>λ_=>False
  | f::_,0,a=>f a
  | _::l,j+1,a=>j7 l j a
def zu:List (List (NT K)->Unit->Nat)->Nat->List (NT K)->Unit->Nat
  | [],_,_=>λ_=>0
  | f::_,0,a=>f a
  | _::l,j+1,a=>zu l j a
def zep (inv:Nat->List (NT K)->Unit->Prop) (j:Nat) (a:List (NV K)):Prop:=inv j (qre a) ()
def q52 (meas:Nat->List (NT K)->Unit->Nat) (j:Nat) (a:List (NV K)):Nat:=meas j (qre a) ()
inductive RL (K:Nat->Type) where
  | i (k:IntKind) (n:Unit->Int)
  | b (b:Unit->Bool)
  | s (s:Unit->List UInt8)
  | l (c:Nat) (l:Unit->List (K c))
  | o (c:Nat) (l:Unit->List (K c)) (i:Nat)
  | f (g:Nat)
  | nf
  | ns
inductive RA (K:Nat->Type) where
  | a (r:RL K)
  | g (l:List (RL K))
inductive RY (K:Nat->Type) where
  | o (r:RA K)
  | t (l:List (RA K))
def RL.p:RL K->PT K
  | .i k n=>.int k none n
  | .b x=>.sb 0 false x (λ_=>x ()=true) (λ_=>x ()=false)
  | .s x=>.str x
  | .l c x=>.list c x none
  | .o c x n=>.list c x (some (n,0))
  | .f g=>.func g [] []
  | .nf=>.nilf
  | .ns=>.nils
def zp9:List (RL K)->List (PT K)
  | []=>[]
  | r::l=>r.p::zp9 l
def RA.p:RA K->PT K
  | .a r=>r.p
  | .g l=>.agg (zp9 l)
def zjk:List (RA K)->List (PT K)
  | []=>[]
  | r::l=>r.p::zjk l
def RY.p:RY K->PT K
  | .o r=>r.p
  | .t l=>.tuple (zjk l)
theorem RL.ok (r:RL K):Simple (plP r.p)/\RT (plP r.p)/\P.cellsOf (plP r.p)=[plP r.p]:=by
  cases r
  . exact ⟨.int,rfl,rfl⟩
  . exact ⟨.sb,⟨rfl,.rfl,.rfl⟩,rfl⟩
  . exact ⟨.str,trivial,rfl⟩
  . exact ⟨.list,trivial,rfl⟩
  . exact ⟨.own,rfl,rfl⟩
  . exact ⟨.func,trivial,rfl⟩
  . exact ⟨.nilf,trivial,rfl⟩
  . exact ⟨.nils,trivial,rfl⟩
theorem q35:∀ {l:List (RL K)} {p:PV K},p ∈ q8v (zp9 l)->Simple p/\RT p
  | [],p,h=>by cases h
  | r::l,p,h=>by
    rcases zD.1 h with rfl | h
    . exact ⟨r.ok.1,r.ok.2.1⟩
    . exact q35 h
theorem RA.ok (r:RA K):Form1 (plP r.p)/\∀ p ∈ P.cellsOf (plP r.p),RT p:=by
  cases r with
  | a r=>exact ⟨.one r.ok.1,λp h=>by
      have b:p ∈ P.cellsOf (plP r.p):=h;rw [r.ok.2.2] at b;rw [List.mem_singleton.1 b];exact r.ok.2.1⟩
  | g l=>exact ⟨.agg λp h=>(q35 h).1,λp h=>(q35 h).2⟩
theorem q3x:∀ {l:List (RA K)} {p:PV K},p ∈ q8v (zjk l)->Form1 p/\∀ q ∈ P.cellsOf p,RT q
  | [],p,h=>by cases h
  | r::l,p,h=>by
    rcases zD.1 h with rfl | h
    . exact r.ok
    . exact q3x h
theorem q73 {p:PV K} (h:Form1 p):P.flat p=P.cellsOf p:=by
  cases h with
  | one h=>cases h<;>rfl
  | agg h=>rfl
theorem RY.ok (r:RY K):Form (plP r.p)/\∀ p ∈ (plP r.p).flat,RT p:=by
  cases r with
  | o r=>exact ⟨.one r.ok.1,λp h=>by
      have a:p ∈ P.flat (plP r.p):=h;rw [q73 r.ok.1] at a;exact r.ok.2 p a⟩
  | t l=>exact ⟨.tuple λp h=>(q3x h).1,λp h=>by
      have a:p ∈ (q8v (zjk l)).flatMap P.cellsOf:=h;obtain ⟨q,b,c⟩:=List.mem_flatMap.1 a;exact (q3x b).2 p c⟩
structure CtY (K:Nat->Type) where
  sh:List Sh
  ks:List SK
  ok:qd0 sh=ks
  fn:q7l K ks->(Unit->Prop)×RY K
def CtY.t (c:CtY K):CtT K:=(c.sh,λb=>(qgx (c.ks) b).map λa=>((c.fn a).1,(c.fn a).2.p))
def CtY.v (c:CtY K):Ct K:=(c.sh,λb=>(qgx (c.ks) (qre b)).map λa=>((c.fn a).1 (),plP (c.fn a).2.p))
def tsL:List (Nat×CtY K)->List (Nat×CtT K)
  | []=>[]
  | (f,c)::l=>(f,c.t)::tsL l
def vsL:List (Nat×CtY K)->List (Nat×Ct K)
  | []=>[]
  | (f,c)::l=>(f,c.v)::vsL l
def qo3:List SK->List (NT K)->Option (List (PT K)×List (NT K))
  | [],a=>some ([],a)
  | .int k::ks,.i n::a=>(qo3 ks a).map λr=>(.int k none n::r.1,r.2)
  | .bool::ks,.b b::a=>(qo3 ks a).map λr=>(.sb 0 false b (λ_=>b ()=true) (λ_=>b ()=false)::r.1,r.2)
  | .str::ks,.s s::a=>(qo3 ks a).map λr=>(.str s::r.1,r.2)
  | .list _ _ _::ks,.l c l::a=>(qo3 ks a).map λr=>(.list c l none::r.1,r.2)
  | _,_=>none
def qo4:List Sh->List (NT K)->Option (List (PT K))
  | [],[]=>some []
  | .one k::a,b=>(qo3 [k] b).bind λr=>(qo4 a r.2).map λl=>r.1++l
  | .agg ks::a,b=>(qo3 ks b).bind λr=>(qo4 a r.2).map λl=>.agg r.1::l
  | _,_=>none
theorem qff:∀ {ks:List SK} {d:List (NV K)} {a:q7l K ks},qgx ks (qre d)=some a->∃ v,a=thY ks v/\d=nsV ks v
  | [],[],a,h=>⟨(),rfl,rfl⟩
  | .int _::ks,.i n::d,a,h=>by
    obtain ⟨r,e,rfl⟩:=zM.1 h;obtain ⟨v,rfl,rfl⟩:=qff e;exact ⟨(n,v),rfl,rfl⟩
  | .bool::ks,.b n::d,a,h=>by
    obtain ⟨r,e,rfl⟩:=zM.1 h;obtain ⟨v,rfl,rfl⟩:=qff e;exact ⟨(n,v),rfl,rfl⟩
  | .str::ks,.s n::d,a,h=>by
    obtain ⟨r,e,rfl⟩:=zM.1 h;obtain ⟨v,rfl,rfl⟩:=qff e;exact ⟨(n,v),rfl,rfl⟩
  | .list c o b::ks,.l g l::d,a,h=>by
    have f:(if h:g=c then (qgx ks (qre d)).map λr=>((h ▸ λ_=>l:Unit->List (K c)),r) else none)=some a:=h;split at f
    . rename_i j
      subst j;obtain ⟨r,e,rfl⟩:=zM.1 f;obtain ⟨v,rfl,rfl⟩:=qff e;exact ⟨(l,v),rfl,rfl⟩
    . cases f
def qg2:SK->Bool
  | .keep=>false
  | _=>true
theorem qfr:∀ {ks ks':List SK} {v:qkz K (ks++ks')},ks.all qg2=true->∃ ps d,qcd ks (nsV (ks++ks') v)=some (ps,nsV ks' d)/\∀ p ∈ ps,Plain p
  | [],ks',v,_=>⟨[],v,rfl,λp h=>by cases h⟩
  | .int k::ks,ks',v,h=>by
    obtain ⟨ps,d,e,f⟩:=qfr (v:=v.2) (Bool.and_eq_true_iff.1 h).2;exact ⟨.int k none v.1::ps,d,by show (qcd ks (nsV (ks++ks') v.2)).map _=_;rw [e];rfl,λp a=>by
      rcases zD.1 a with rfl | a
      . exact .int
      . exact f p a⟩
  | .bool::ks,ks',v,h=>by
    obtain ⟨ps,d,e,f⟩:=qfr (v:=v.2) (Bool.and_eq_true_iff.1 h).2;exact ⟨_::ps,d,by show (qcd ks (nsV (ks++ks') v.2)).map _=_;rw [e];rfl,λp a=>by
      rcases zD.1 a with rfl | a
      . exact .sb
      . exact f p a⟩
  | .str::ks,ks',v,h=>by
    obtain ⟨ps,d,e,f⟩:=qfr (v:=v.2) (Bool.and_eq_true_iff.1 h).2;exact ⟨_::ps,d,by show (qcd ks (nsV (ks++ks') v.2)).map _=_;rw [e];rfl,λp a=>by
      rcases zD.1 a with rfl | a
      . exact .str
      . exact f p a⟩
  | .list c o b::ks,ks',v,h=>by
    obtain ⟨ps,d,e,f⟩:=qfr (v:=v.2) (Bool.and_eq_true_iff.1 h).2;exact ⟨_::ps,d,by show (qcd ks (nsV (ks++ks') v.2)).map _=_;rw [e];rfl,λp a=>by
      rcases zD.1 a with rfl | a
      . exact .list
      . exact f p a⟩
theorem qm4:∀ {sh:List Sh} {v:qkz K (qd0 sh)},(qd0 sh).all qg2=true->∃ args,qcy sh (nsV (qd0 sh) v)=some args/\∀ p ∈ args,Plain p
  | [],_,_=>⟨[],rfl,λp h=>by cases h⟩
  | .one k::sh,v,h=>by
    obtain ⟨ps,a,e,f⟩:=qfr (ks:=[k]) (ks':=qd0 sh) (v:=v) (by
      have c:(k::qd0 sh).all qg2=true:=h;rw [List.all_cons,zA] at c;rw [List.all_cons,c.1]
      rfl)
    obtain ⟨args,g,b⟩:=qm4 (sh:=sh) (v:=a) (Bool.and_eq_true_iff.1 h).2;refine ⟨ps++args,?_,λp d=>(List.mem_append.1 d).elim (f p) (b p)⟩;have i:qcd [k] (nsV (qd0 (.one k::sh)) v)=some (ps,nsV (qd0 sh) a):=e;rw [qcy,i,zB];show (qcy sh (nsV (qd0 sh) a)).map _=_;rw [g];rfl
  | .agg ks::sh,v,h=>by
    have c:(ks++qd0 sh).all qg2=true:=h;rw [List.all_append,zA] at c;obtain ⟨ps,a,e,f⟩:=qfr (ks:=ks) (ks':=qd0 sh) (v:=v) c.1;obtain ⟨args,g,b⟩:=qm4 (sh:=sh) (v:=a) c.2;refine ⟨.agg ps::args,?_,λp d=>?_⟩
    . have i:qcd ks (nsV (qd0 (.agg ks::sh)) v)=some (ps,nsV (qd0 sh) a):=e
      rw [qcy,i,zB];show (qcy sh (nsV (qd0 sh) a)).map _=_;rw [g];rfl
    . rcases zD.1 d with rfl | d
      . exact .agg f
      . exact b p d
theorem CtY.fits {c:CtY K} {v:qkz K c.ks} (h:c.ks.all qg2=true):∃ args,qcy c.sh (nsV c.ks v)=some args/\∀ p ∈ args,Plain p:=by
  obtain ⟨sh,ks,rfl,fn⟩:=c;exact qm4 h
section
variable {X:Codecs K} {sz:Nat->Nat} {C:ZC K}
def zbu (X:Codecs K) (sz:Nat->Nat) (C:ZC K):List (Nat×CtY K)->Prop
  | []=>True
  | (f,c)::l=>kz X sz C f c.v/\zbu X sz C l
theorem qpi:∀ {l:List (Nat×CtY K)},zbu X sz C l->qcu X sz C (qe2 (vsL l))
  | [],_=>qlf
  | (_,_)::_,h=>q89 h.1 (qpi h.2)
def qx4 (c:CtY K) (W:List (PV K)->PV K->Prop) (WT:List (PT K)->PT K->Unit->Prop) (v:qkz K (c.ks)):Prop:=
  match qcy c.sh (nsV (c.ks) v),qo4 c.sh (qre (nsV (c.ks) v)) with
  | some args,some a=>(c.fn (thY (c.ks) v)).1 ()->Aux (qkw (WT a (c.fn (thY (c.ks) v)).2.p)) (W args (plP (c.fn (thY (c.ks) v)).2.p))
  | _,_=>False
theorem qru {c:CtY K} {f:Nat} {W:qkz K (c.ks)->List (PV K)->PV K->Prop} {WT:qkz K (c.ks)->List (PT K)->PT K->Unit->Prop}
    (d:∀ v args r,(∀ p ∈ args,Plain p)->(∀ p ∈ r.flat,RT p)->W v args r->qhp X sz C f args r)
    (j:(c.ks).all qg2=true) (h:∀ v,qx4 c (W v) (WT v) v):kz X sz C f c.v:=by
  intro s k r l m;obtain ⟨a,n,o⟩:=zM.1 l;obtain ⟨v,rfl,rfl⟩:=qff n;cases o;obtain ⟨args,e,g⟩:=CtY.fits (v:=v) j;refine ⟨args,e,d v args _ g (c.fn (thY _ v)).2.ok.2 ?_,(c.fn (thY _ v)).2.ok.1⟩;have b:=h v;unfold qx4 at b;rw [e] at b;cases q:qo4 c.sh (qre (nsV (c.ks) v)) with
  | none=>simp_all
  | some i=>
    rw [q] at b;exact (b m).h
theorem qa6 (ok:CfgOk X sz C) (ok2:CfgOk2 X C) (b:qt C) {c:CtY K} {f:Nat} {l:List (Nat×CtY K)} (tok:zbu X sz C l) (d:Bool) (XT:CodecsT K) (e:q4i K) (ann:List (Nat×Nat×Ann)) (depth:Nat)
    (inv:qkz K c.ks->Nat->List (NT K)->Unit->Prop) (meas:qkz K c.ks->Nat->List (NT K)->Unit->Nat) (g:(c.ks).all qg2=true)
    (h:∀ v,qx4 c (λargs r=>qtp (qu X (qe2 (vsL l)) (zep (inv v)) (q52 (meas v))) {C with ann:=qir ann} depth f args r) (wpH d XT X (tsL l) (inv v) (meas v) e ann depth f) v):kz X sz C f c.v:=
  qru (λ_ _ _ a i j=>zeg ok ok2 (qpi tok) b a i rfl j) g h
def zvz (a:Bool) (X:CodecsT K) (b:Codecs K) (l:List (Nat×CtT K)) (inv:Nat->List (NT K)->Unit->Prop) (meas:Nat->List (NT K)->Unit->Nat) (C:q4i K) (ann:List (Nat×Nat×Ann)) (depth f:Nat) (args:List (PT K)) (r:PT K):Unit->Prop:=
  qtp (thA a X b (zjx l) inv meas) {C with ann:=qir ann,born:=λ_=>false,keepM:=λ_=>false} depth f args r
theorem qk2 (ok:CfgOk X sz C) (ok2:CfgOk2 X C) (b:qt C) {c:CtY K} {f:Nat} {l:List (Nat×CtY K)} (tok:zbu X sz C l) (d:Bool) (XT:CodecsT K) (e:q4i K) (ann:List (Nat×Nat×Ann)) (depth:Nat)
    (inv:qkz K c.ks->Nat->List (NT K)->Unit->Prop) (meas:qkz K c.ks->Nat->List (NT K)->Unit->Nat) (g:(c.ks).all qg2=true)
    (h:∀ v,qx4 c (λargs r=>qtp (qu X (qe2 (vsL l)) (zep (inv v)) (q52 (meas v))) {C with ann:=qir ann,born:=λ_=>false,keepM:=λ_=>false} depth f args r) (zvz d XT X (tsL l) (inv v) (meas v) e ann depth f) v):kz X sz C f c.v:=
  qru (λ_ _ _ a i j=>znw ok ok2 (qpi tok) b a i rfl j) g h
def zv0 (a:Bool) (X:CodecsT K) (b:Codecs K) (l:List (Nat×CtT K)) (inv:Nat->List (NT K)->Unit->Prop) (meas:Nat->List (NT K)->Unit->Nat) (C:q4i K) (ann:List (Nat×Nat×Ann)) (depth f:Nat) (args:List (PT K)) (r:PT K):Unit->Prop:=
  qtq (thA a X b (zjx l) inv meas) {C with ann:=qir ann} depth f args r
theorem zrz (ok:CfgOk X sz C) (ok2:CfgOk2 X C) (a:qt C) {c:CtY K} {f:Nat} {l:List (Nat×CtY K)} (tok:zbu X sz C l) (b:Bool) (XT:CodecsT K) (d:q4i K) (ann:List (Nat×Nat×Ann)) (depth:Nat)
    (inv:qkz K c.ks->Nat->List (NT K)->Unit->Prop) (meas:qkz K c.ks->Nat->List (NT K)->Unit->Nat) (e:(c.ks).all qg2=true)
    (h:∀ v,qx4 c (λargs r=>qtq (qu X (qe2 (vsL l)) (zep (inv v)) (q52 (meas v))) {C with ann:=qir ann} depth f args r) (zv0 b XT X (tsL l) (inv v) (meas v) d ann depth f) v):kz X sz C f c.v:=
  qru (λ_ _ _ _ g i=>znx ok ok2 (qpi tok) a g rfl i) e h
def q5y (c:CtY K) (m:q7l K (c.ks)->Nat) (n:Nat):CtY K:=⟨c.sh,c.ks,c.ok,λa=>(λ_=>(c.fn a).1 ()/\m a<n,(c.fn a).2)⟩
theorem zry (ok:CfgOk X sz C) (ok2:CfgOk2 X C) (o:qt C) {c:CtY K} {f:Nat} {l:List (Nat×CtY K)} (tok:zbu X sz C l) (m:q7l K (c.ks)->Nat) (p:Bool) (XT:CodecsT K) (q:q4i K) (ann:List (Nat×Nat×Ann)) (depth:Nat)
    (inv:qkz K c.ks->Nat->List (NT K)->Unit->Prop) (meas:qkz K c.ks->Nat->List (NT K)->Unit->Nat) (s:(c.ks).all qg2=true)
    (h:∀ v,qx4 c (λargs r=>qtp (qu X (qe2 (vsL ((f,q5y c m (m (thY _ v)))::l))) (zep (inv v)) (q52 (meas v))) {C with ann:=qir ann} depth f args r)
      (wpH p XT X (tsL ((f,q5y c m (m (thY _ v)))::l)) (inv v) (meas v) q ann depth f) v):kz X sz C f c.v:=by
  have e:∀ n,kz X sz C f (q5y c m n).v:=by
    intro n
    induction n using Nat.strongRecOn with
    | _ n t=>
      refine qru (W:=λv args r=>m (thY _ v)<n/\qtp (qu X (qe2 (vsL ((f,q5y c m (m (thY _ v)))::l))) (zep (inv v)) (q52 (meas v))) {C with ann:=qir ann} depth f args r)
        (WT:=λ_ _ _ _=>True) (λv _ _ g u j=>zeg ok ok2 (qpi (l:=(f,q5y c m (m (thY _ v)))::l) ⟨t _ j.1,tok⟩) o g u rfl j.2) s λv=>?_
      have b:=h v;unfold qx4 at b ⊢;show match qcy c.sh (nsV (c.ks) v),qo4 c.sh (qre (nsV (c.ks) v)) with | some args,some i=>_ | _,_=>False
      revert b;cases qcy c.sh (nsV (c.ks) v) with
      | none=>exact id
      | some args=>
        cases qo4 c.sh (qre (nsV (c.ks) v)) with
        | none=>exact id
        | some i=>exact λb d=>⟨_,λA B _ w=>⟨⟨w.symm,d.2,(b d.1).h⟩⟩⟩
  intro D x r y d;obtain ⟨a,k,z⟩:=zM.1 y;obtain ⟨v,rfl,rfl⟩:=qff k;cases z;exact e (m (thY _ v)+1) _ _ _ (zM.2 ⟨_,k,rfl⟩) ⟨d,Nat.lt_succ_self _⟩
end
end Go.E3
/- CONTRACTS WITH TYPED ARGUMENTS out of what is known of a function, and back. -/
namespace Go.E3
open Go Go.E2
variable {K:Nat->Type}
section
variable {X:Codecs K} {sz:Nat->Nat} {C:ZC K}
theorem q2i {c:CtY K} {f:Nat} (b:c.ks.all qg2=true) (h:∀ v:qkz K c.ks,(c.fn (thY c.ks v)).1 ()->∀ args,qcy c.sh (nsV c.ks v)=some args->qhp X sz C f args (plP (c.fn (thY c.ks v)).2.p)):kz X sz C f c.v:=by
  intro l d r g i;obtain ⟨a,j,k⟩:=zM.1 g;obtain ⟨v,rfl,rfl⟩:=qff j;cases k;obtain ⟨args,e,_⟩:=CtY.fits (v:=v) b;exact ⟨args,e,h v i args e,(c.fn (thY _ v)).2.ok.1⟩
theorem qk6:∀ {ks:List SK} {v:qkz K ks},ks.all qg2=true->qgx ks (qre (nsV ks v))=some (thY ks v)
  | [],_,_=>rfl
  | .int _::ks,v,h=>by
    show (qgx ks (qre (nsV ks v.2))).map _=_;rw [qk6 (Bool.and_eq_true_iff.1 h).2];rfl
  | .bool::ks,v,h=>by
    show (qgx ks (qre (nsV ks v.2))).map _=_;rw [qk6 (Bool.and_eq_true_iff.1 h).2];rfl
  | .str::ks,v,h=>by
    show (qgx ks (qre (nsV ks v.2))).map _=_;rw [qk6 (Bool.and_eq_true_iff.1 h).2];rfl
  | .list c _ _::ks,v,h=>by
    show (if h:c=c then (qgx ks (qre (nsV ks v.2))).map λr=>((h ▸ λ_=>v.1:Unit->List (K c)),r) else none)=_;rw [dif_pos rfl,qk6 (Bool.and_eq_true_iff.1 h).2];rfl
theorem kz.fn {c:CtY K} {f:Nat} (h:kz X sz C f c.v) (a:c.ks.all qg2=true) (v:qkz K c.ks) {args:List (PV K)} (e:qcy c.sh (nsV c.ks v)=some args) (b:(c.fn (thY c.ks v)).1 ()):qhp X sz C f args (plP (c.fn (thY c.ks v)).2.p):=by
  obtain ⟨d,g,i,_⟩:=h (nsV c.ks v) _ _ (zM.2 ⟨_,qk6 a,rfl⟩) b;cases e.symm.trans (show qcy c.sh (nsV c.ks v)=some d from g);exact i
end
end Go.E3
/- E3: HAND PROOFS through regions whose operations have guards, or draw their order, and through rounds. -/
namespace Go.E3
open Go Go.E2
def q8g:Code->Option (Bool×List (Option Tmp×Op×Option (Nat×Bool)))
  | .region _ ops d=>some (d,ops.toList.map λo=>(o.dst,o.op,o.guard))
  | _=>none
def zdn:Code->Array Nat
  | .region _ ops _=>Region.before ops
  | _=>#[]
def zfr:Code->Array Oper
  | .region _ ops _=>ops
  | _=>#[]
def gk (o:Oper):Option Tmp×Op×Option (Nat×Bool):=(o.dst,o.op,o.guard)
section
variable {E:Env} {fn:FuncId} {round:Option Nat} {nd:Bool} {Q:Ex->Fr->Heap->Prop} {all:Array Oper} {l:List Oper} {fr:Fr} {H:Heap}
theorem qpn {c:Code} {L:List (Option Tmp×Op)} (h:jo c=some L) (k:WpO E round.isNone #[] (L.map norm) fr H Q):Wp E fn round c fr H Q:=by
  unfold jo at h;split at h
  . rename_i id ops
    rcases zz h with ⟨_,h⟩ | ⟨b,h⟩
    . cases h
    . obtain ⟨x,⟨d,e⟩,f⟩:=k
      cases h;refine qcs ⟨x,⟨d,λk a=>?_⟩,f⟩;rw [qoq (λo g=>by
        have:=List.all_eq_true.1 b o g;simpa using this)]
      have:=e k a;rw [List.map_map] at this;exact this
  . cases h
theorem zka {c:Code} {L:List (Option Tmp×Op×Option (Nat×Bool))} (h:q8g c=some (false,L)) (k:∀ ops:Array Oper,ops.toList.map gk=L->WpO E round.isNone ops ops.toList fr H Q):Wp E fn round c fr H Q:=by
  unfold q8g at h;split at h
  . rename_i id ops d
    cases h;exact qcs (k ops rfl)
  . cases h
theorem zbr {c:Code} {L:List (Option Tmp×Op×Option (Nat×Bool))} (h:q8g c=some (true,L)) (k:(zfr c).toList.map gk=L->WpD E (zfr c) (zdn c) 0 (zfr c).toList [] fr H Q):Wp E fn round c fr H Q:=by
  unfold q8g at h;split at h
  . rename_i id ops d
    cases h;exact q7a (k rfl)
  . cases h
theorem qlw {x:Option Tmp×Op×Option (Nat×Bool)} {L:List (Option Tmp×Op×Option (Nat×Bool))} (h:l.map gk=x::L):∃ o a,l=o::a/\o.dst=x.1/\o.op=x.2.1/\o.guard=x.2.2/\a.map gk=L:=by
  cases l with
  | nil=>cases h
  | cons o a=>
    obtain ⟨b,c⟩:=List.cons.inj h;subst b;exact ⟨o,a,rfl,rfl,rfl,rfl,c⟩
theorem q20 (h:l.map gk=[]):l=[]:=List.map_eq_nil_iff.1 h
theorem zli {ops:Array Oper} {L:List (Option Tmp×Op×Option (Nat×Bool))} {j:Nat} (h:ops.toList.map gk=L):(ops[j]?).bind (·.dst)=(L[j]?).bind (·.1):=by
  subst h;rw [List.getElem?_map,Array.getElem?_toList];cases ops[j]?<;>rfl
theorem qr1 {o:Oper} {d:Option Tmp} {op:Op} (a:o.dst=d) (b:o.op=op):zb E o fr H=zb E (norm (d,op)) fr H:=by
  rw [q0h,a,b]
theorem gg1 {op:Op} {d:Nat} {L:List (Option Tmp×Op×Option (Nat×Bool))} {v:V} {H':Heap} (e:l.map gk=(some d,op,none)::L) (f:qm8 op=false) (g:d<fr.n) (h:zb E (norm (some d,op)) fr H=some (.val v,H'))
    (k:∀ fr' a,a.map gk=L->Upd fr d v fr'->WpO E nd all a fr' H' Q):WpO E nd all l fr H Q:=by
  obtain ⟨o,a,rfl,b,c,i,j⟩:=qlw e;exact q4f (by rw [qhb,c];exact f) (qdk i) b g ((qr1 b c).trans h) λfr' u=>k fr' a j u
theorem zcb {op:Op} {d j t:Nat} {w:Bool} {L:List (Option Tmp×Op×Option (Nat×Bool))} {v:V} {H':Heap} (e:l.map gk=(some d,op,some (j,w))::L) (f:(all[j]?).bind (·.dst)=some t) (g:fr.tmp t=some (.bool w)) (i:qm8 op=false) (m:d<fr.n) (h:zb E (norm (some d,op)) fr H=some (.val v,H'))
    (k:∀ fr' a,a.map gk=L->Upd fr d v fr'->WpO E nd all a fr' H' Q):WpO E nd all l fr H Q:=by
  obtain ⟨o,a,rfl,b,c,p,q⟩:=qlw e;exact q4f (by rw [qhb,c];exact i) (q7b p f g) b m ((qr1 b c).trans h) λfr' u=>k fr' a q u
theorem qv4 {op:Op} {d j t:Nat} {w:Bool} {L:List (Option Tmp×Op×Option (Nat×Bool))} (b:l.map gk=(some d,op,some (j,w))::L) (c:(all[j]?).bind (·.dst)=some t) (e:fr.tmp t=some (.bool (!w))) (f:qm8 op=false) (g:d<fr.n)
    (k:∀ fr' a,a.map gk=L->Upd fr d zs fr'->WpO E nd all a fr' H Q):WpO E nd all l fr H Q:=by
  obtain ⟨o,a,rfl,h,i,m,p⟩:=qlw b;exact zg2 (by rw [qhb,i];exact f) (zj7 m c e) h g λfr' u=>k fr' a p u
theorem zu5 {op:Op} {d j t:Nat} {w:Bool} {L:List (Option Tmp×Op×Option (Nat×Bool))} {b:Tgt} {args:List V} (f:l.map gk=(some d,op,some (j,w))::L) (g:(all[j]?).bind (·.dst)=some t) (i:fr.tmp t=some (.bool w)) (m:qm8 op=false) (p:d<fr.n) (h:zb E (norm (some d,op)) fr H=some (.call b args,H)) {R:V->Heap->Prop} (q:qaa E b args H R)
    (k:∀ v H',R v H'->∀ fr' a,a.map gk=L->Upd fr d v fr'->WpO E nd all a fr' H' Q):WpO E nd all l fr H Q:=by
  obtain ⟨o,a,rfl,c,e,r,s⟩:=qlw f;exact zbo (by rw [qhb,e];exact m) (q7b r g i) c p ((qr1 c e).trans h) q λv H' x fr' u=>k v H' x fr' a s u
variable {b:Array Nat} {i B:Nat} {done:List Done}
theorem gd1 {op:Op} {d:Nat} {L:List (Option Tmp×Op×Option (Nat×Bool))} {v:V} (m:l.map gk=(some d,op,none)::L) (p:qkv B i done) (q:B<=H.next) (r:js E op=false) (s:d<fr.n)
    (f:∀ fr' H',(∀ t,Operand.tmp t ∈ op.operands.toList->fr'.tmp t=fr.tmp t)->zb E (norm (some d,op)) fr' H'=some (.val v,H'))
    (k:∀ a fr' e,e.map gk=L->qkv B (i+1) a->Upd fr d v fr'->WpD E all b (i+1) e a fr' H Q):WpD E all b i l done fr H Q:=by
  obtain ⟨o,e,rfl,j,g,w,x⟩:=qlw m;exact zj8 p q (by rw [g];exact r) w j s (λfr' H' h=>(qr1 j g).trans (f fr' H' (by rw [g] at h;exact h))) λa fr' c u=>k a fr' e x c u
theorem zb9 {t:TypeId} {ti:TI} {s d nm g off lim:Nat} {L:List (Option Tmp×Op×Option (Nat×Bool))} {v:V} (j:l.map gk=(some d,.load t (.tmp s),none)::L) (m:qkv B i done) (p:B<=H.next) (q:E.types t=some ti) (r:fr.tmp s=some (.ptr nm g off lim)) (f:nm<B) (w:d<fr.n) (h:jr H ti (.ptr nm g off lim)=some v)
    (k:∀ a fr' e,e.map gk=L->qkv B (i+1) a->Upd fr d v fr'->WpD E all b (i+1) e a fr' H Q):WpD E all b i l done fr H Q:=by
  obtain ⟨o,e,rfl,x,y,z,A⟩:=qlw j;exact zra m p y q r f z x w h λa fr' c u=>k a fr' e A c u
theorem zrd:zw H .lone []=H:=rfl
theorem zcg {a:Heap} (b:a.ro=H.ro) (c:a.qp=H.qp):qb6 H a .lone []=a:=by
  cases a;subst b c;rfl
theorem zsf {op:Op} {d:Nat} {e:Tgt} {args:List V} (q:l.map gk=[(some d,op,none)]) (r:qkv B i done) (s:((List.range i).all λj=>(b.getD i 0).testBit j)=true) (f:qjc E all b i=true) (g:∀ o fr,o.op=op->qfe E o fr=.call) (u:d<fr.n)
    (h:∀ fr' H',(∀ t,Operand.tmp t ∈ op.operands.toList->fr'.tmp t=fr.tmp t)->zb E (norm (some d,op)) fr' H'=some (.call e args,H'))
    (a:qaa E e args H λv c=>H.next<=c.next/\c.ro=H.ro/\c.qp=H.qp/\∀ fr',Upd fr d v fr'->Q .normal fr' c):WpD E all b i l done fr H Q:=by
  obtain ⟨o,G,rfl,p,k,w,x⟩:=qlw q;obtain rfl:=q20 x;have m:=q74 r s;refine qzh (fp:=.lone) (qdk w) (g o fr k) (by rw [f];rfl) (by rw [m];rfl) (K0:=H) (t:=e) (args:=args) ?_ (a.mono λv c y=>?_)
  . rw [m]
    show zb E o {fr with tmps:=kl fr.tmps (o.looksAt all) .nil} (zw H .lone [])=_;exact (qr1 p k).trans (h _ _ λt z=>qdi (q0z (by rw [k];exact z)))
  . obtain ⟨A,C,D,F⟩:=y
    refine ⟨A,?_⟩;rw [m];show WpD E all b (i+1) [] _ _ (qb6 H c .lone []) Q;rw [zcg C D,p];exact zbn (F _ (qpa u))
end
end Go.E3
/- PLAIN LEAN FOR CONDITIONS: elements, bytes, parts of lists by numbers; places up to which something holds; cuts at a byte. No program in sight. -/
namespace Go.E3
theorem qq7 {α:Type} [Inhabited α] {l:List α} {i:Nat} (h:i<l.length):ix l (i:Int)=l[i]:=by
  simp [ix,List.getD_eq_getElem?_getD,h]
theorem qx8 {α:Type} [Inhabited α] {l m:List α} {i:Int} (a:0<=i) (h:i<ln l):ix (l++m) i=ix l i:=by
  have:i.toNat<l.length:=by simp only [ln] at h;omega
  simp [ix,List.getD_eq_getElem?_getD,List.getElem?_append_left this]
theorem q99 {α:Type} (l:List α):fr l 0=l:=rfl
theorem qf7 {α:Type} {l:List α} {i:Int} (h:ln l<=i):fr l i=[]:=by
  apply List.drop_of_length_le;simp only [ln] at h;omega
theorem qdt {α:Type} [Inhabited α] {l:List α} {i:Int} (a:0<=i) (h:i<ln l):fr l i=ix l i::fr l (i+1):=by
  have hi:i.toNat<l.length:=by simp only [ln] at h;omega
  have e:(i+1).toNat=i.toNat+1:=by omega
  unfold fr ix;rw [List.drop_eq_getElem_cons hi,e,List.getD_eq_getElem?_getD,List.getElem?_eq_getElem hi];rfl
theorem zpk {α:Type} {l:List α} {i j:Int} (a:0<=i) (b:i<=j) (h:j<=ln l):ln (sub l i j)=j-i:=by
  simp only [ln,sub,List.length_drop,List.length_take] at *;omega
theorem zc {α:Type} (l:List α):0<=ln l:=Int.natCast_nonneg _
theorem qdg {α:Type} (l m:List α):ln (l++m)=ln l+ln m:=by simp [ln]
theorem qgd {α:Type} (a:α) (l:List α):ln (a::l)=ln l+1:=by simp [ln]
theorem qja {α:Type}:ln ([]:List α)=0:=rfl
theorem zaj {α:Type} {l:List α} (h:ln l<=0):l=[]:=by
  cases l with
  | nil=>rfl
  | cons a l=>simp only [ln,List.length_cons] at h;omega
theorem q1q {α:Type} {l m:List α} (h:ln l+ln m<=1000000000):qrj (l.length+m.length):=by simp only [ln,qrj] at *;omega
theorem j9 {α:Type} {l:List α} {a:α} (h:ln l+1<=1000000000):qrj (l.length + [a].length):=by simp only [ln,qrj,List.length_cons,List.length_nil] at *;omega
theorem qdu {α:Type} (l:List α) (a:α):ln (l++[a])=ln l+1:=by simp [ln]
theorem q98 {α:Type} {l:List α} {i j:Int} (a:0<=i) (b:0<=j):fr (fr l i) j=fr l (i+j):=by
  simp only [fr,List.drop_drop];have:i.toNat+j.toNat=(i+j).toNat:=by omega
  rw [this]
theorem zln {α:Type} [Inhabited α] {s:List α} {i j:Int} (a:0<=i) (b:0<=j):ix (fr s i) j=ix s (i+j):=by
  have:i.toNat+j.toNat=(i+j).toNat:=by omega
  simp only [ix,fr,List.getD_eq_getElem?_getD,List.getElem?_drop,this]
theorem ze8 {α:Type} [Inhabited α] {l:List α} {a:α} (h:a ∈ l):∃ i:Int,0<=i/\i<ln l/\ix l i=a:=by
  obtain ⟨i,hi,rfl⟩:=List.mem_iff_getElem.1 h;exact ⟨i,by omega,by simp only [ln];omega,qq7 hi⟩
theorem q25 {α:Type} [Inhabited α] {l:List α} {i:Int} (a:0<=i) (h:i<ln l):ix l i ∈ l:=by
  have hi:i.toNat<l.length:=by simp only [ln] at h;omega
  have:ix l i=l[i.toNat]:=by simp [ix,List.getD_eq_getElem?_getD,hi]
  rw [this];exact List.getElem_mem hi
theorem qnr {α:Type} [Inhabited α] {l m:List α} (h:ln l=ln m) (he:∀ i,0<=i->i<ln l->ix l i=ix m i):l=m:=by
  apply List.ext_getElem (by simp only [ln] at h;omega);intro i a b;have:=he i (by omega) (by simp only [ln];omega)
  rwa [qq7 a,qq7 b] at this
theorem q3b {α:Type} {l:List α} {i:Nat} {a:α}:ln (l.set i a)=ln l:=by simp [ln]
theorem qsh {α:Type} {n:Int} {a:α} (h:0<=n):ln (List.replicate n.toNat a)=n:=by simp only [ln,List.length_replicate];omega
end Go.E3
