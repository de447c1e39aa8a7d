/- A VERIFIED EVALUATOR, texts E2y in one. -/
import Derived.Test.YtpofmogdhigakaaGreatDoorM2
/- E2: RUNS OF E2's THAT NEED SO MUCH AND NO MORE: rules for code, one after the other, for proofs about whatever arguments. -/
namespace Go.E2
open Go
def zki (E:Env) (t:Tgt) (args:List V) (H:Heap) (y:CR×Heap):Prop:=∃ a,∀ k,a<=k->ja E k t args H=some y
def qaa (E:Env) (t:Tgt) (args:List V) (H:Heap) (Q:V->Heap->Prop):Prop:=∃ v H',zki E t args H (.ret v,H')/\Q v H'
def Wp (E:Env) (fn:FuncId) (round:Option Nat) (c:Code) (fr:Fr) (H:Heap) (Q:Ex->Fr->Heap->Prop):Prop:=
 ∃ x,(∃ a,∀ k,a<=k->qh E (ja E k) fn round (k+1) c fr H=some x)/\Q x.1 x.2.1 x.2.2
def WpO (E:Env) (nd:Bool) (all:Array Oper) (l:List Oper) (fr:Fr) (H:Heap) (Q:Ex->Fr->Heap->Prop):Prop:=
 ∃ x,(∃ a,∀ k,a<=k->ku E (ja E k) nd all l fr H=some x)/\Q x.1 x.2.1 x.2.2
section
variable {E:Env} {fn:FuncId} {round:Option Nat} {nd:Bool} {all:Array Oper} {fr:Fr} {H:Heap} {Q:Ex->Fr->Heap->Prop}
theorem qaa.mono {t:Tgt} {args:List V} {Q a:V->Heap->Prop} (h:qaa E t args H Q) (b:∀ v H',Q v H'->a v H'):qaa E t args H a:=by
 obtain ⟨v,H',c,d⟩:=h;exact ⟨v,H',c,b _ _ d⟩
theorem Wp.mono {c:Code} {a:Ex->Fr->Heap->Prop} (h:Wp E fn round c fr H Q) (b:∀ ex fr' H',Q ex fr' H'->a ex fr' H'):Wp E fn round c fr H a:=by
 obtain ⟨x,d,e⟩:=h;exact ⟨x,d,b _ _ _ e⟩
theorem WpO.mono {l:List Oper} {a:Ex->Fr->Heap->Prop} (h:WpO E nd all l fr H Q) (b:∀ ex fr' H',Q ex fr' H'->a ex fr' H'):WpO E nd all l fr H a:=by
 obtain ⟨x,c,d⟩:=h;exact ⟨x,c,b _ _ _ d⟩
theorem qej (h:Q .normal fr H):Wp E fn round .skip fr H Q:=⟨(.normal,fr,H),⟨0,λ_ _=>rfl⟩,h⟩
theorem zgz {l:Nat} (h:Q .normal fr H):Wp E fn round (.label l) fr H Q:=⟨(.normal,fr,H),⟨0,λ_ _=>rfl⟩,h⟩
theorem qhw (h:Q .ret fr H):Wp E fn round .ret fr H Q:=⟨(.ret,fr,H),⟨0,λ_ _=>rfl⟩,h⟩
theorem qtj {id:Nat} (h:Q (.exit id) fr H):Wp E fn round (.exit id) fr H Q:=⟨(.exit id,fr,H),⟨0,λ_ _=>rfl⟩,h⟩
def qte (next:Fr->Heap->Prop) (Q:Ex->Fr->Heap->Prop):Ex->Fr->Heap->Prop
 | .normal,fr,H=>next fr H
 | e,fr,H=>Q e fr H
theorem za {a b:Code} (h:Wp E fn round a fr H (qte (λfr' H'=>Wp E fn round b fr' H' Q) Q)):Wp E fn round (.seq a b) fr H Q:=by
 obtain ⟨⟨e,fr',H'⟩,⟨c,d⟩,f⟩:=h;cases e with
 | normal=>
  obtain ⟨x,⟨i,j⟩,l⟩:=f;exact ⟨x,⟨max c i,λk g=>by simp only [qh,d k (by omega),j k (by omega)]⟩,l⟩
 | _=>exact ⟨_,⟨c,λk g=>by simp only [qh,d k g]⟩,f⟩
theorem q4e {c:Operand} {a b:Code} {t:Bool} (d:opd fr H c=some (.bool t)) (h:Wp E fn round (if t then a else b) fr H Q):Wp E fn round (.cond c a b) fr H Q:=by
 obtain ⟨x,⟨e,f⟩,g⟩:=h;refine ⟨x,⟨e,λk i=>?_⟩,g⟩;have:=f k i;cases t<;>simp only [qh,d]<;>exact this
def qm2 (id:Nat) (Q:Ex->Fr->Heap->Prop):Ex->Fr->Heap->Prop
 | .exit a,fr,H=>if a=id then Q .normal fr H else Q (.exit a) fr H
 | e,fr,H=>Q e fr H
theorem qah {id:Nat} {c:Code} (h:Wp E fn round c fr H (qm2 id Q)):Wp E fn round (.block id c) fr H Q:=by
 obtain ⟨⟨e,fr',H'⟩,⟨g,i⟩,d⟩:=h;cases e with
 | exit a=>
  simp only [qm2] at d;by_cases b:a=id
  .rw [zT b] at d;subst b;have j:Nat.beq a a=true:=by rw [Nat.beq_eq]
   exact ⟨(.normal,fr',H'),⟨g,λk f=>by simp only [qh,i k f,j,zO]⟩,d⟩
  .rw [zF b] at d;have j:Nat.beq a id=false:=by
    cases l:Nat.beq a id with
    | false=>rfl
    | true=>simp_all
   exact ⟨(.exit a,fr',H'),⟨g,λk f=>by simp only [qh,i k f,j,zQ]⟩,d⟩
 | _=>exact ⟨_,⟨g,λk f=>by simp only [qh,i k f]⟩,d⟩
theorem zg0 {c:Code} (h:Wp E fn round c fr H (λe fr' H'=>(∀ l,e≠.goto l)/\Q e fr' H')):Wp E fn round (.scope c) fr H Q:=by
 obtain ⟨⟨e,fr',H'⟩,⟨a,b⟩,g,d⟩:=h;refine ⟨(e,fr',H'),⟨a,λk f=>?_⟩,d⟩;simp only [qh,b k f]
 all_goals first
  | rfl
  | (cases e with
   | goto l=>simp_all
   | _=>rfl)
theorem qij {c:Code} (Inv:Nat->Fr->Heap->Prop) {m:Nat} (p:Inv m fr H)
  (h:∀ m fr H,Inv m fr H->Wp E fn round c fr H (qte (λfr' H'=>∃ b,b<m/\Inv b fr' H') Q)):Wp E fn round (.loop c) fr H Q:=by
 have j:∀ (m:Nat) (fr:Fr) (H:Heap) (o:Ex),Inv m fr H->∃ x,(∃ a r,∀ k,a<=k->∀ f,r<f->iter (λ(s:Ex×Fr×Heap)=>match qh E (ja E k) fn round (k+1) c s.2.1 s.2.2 with
   | some (.normal,fr',H')=>some (true,.normal,fr',H')
   | some r=>some (false,r)
   | none=>none) f (o,fr,H)=some x)/\Q x.1 x.2.1 x.2.2:=by
  intro m
  induction m using Nat.strongRecOn with
  | _ m q=>
   intro fr H o hi;obtain ⟨⟨e,fr',H'⟩,⟨a,d⟩,i⟩:=h m fr H hi;cases e with
   | normal=>
    obtain ⟨b,t,l⟩:=i;obtain ⟨x,⟨u,r,v⟩,w⟩:=q b t fr' H' .normal l;refine ⟨x,⟨max a u,r+1,λk n f y=>?_⟩,w⟩;obtain ⟨f,rfl⟩:∃ g,f=g+1:=⟨f-1,by omega⟩;simp only [iter,d k (by omega)];exact v k (by omega) f (by omega)
   | _=>
    refine ⟨_,⟨a,0,λk n f y=>?_⟩,i⟩;obtain ⟨f,rfl⟩:∃ g,f=g+1:=⟨f-1,by omega⟩;simp only [iter,d k n]
 obtain ⟨x,⟨a,r,d⟩,i⟩:=j m fr H .normal p;exact ⟨x,⟨max a r,λk n=>by simp only [qh];exact d k (by omega) (k+1) (by omega)⟩,i⟩
theorem qcs {id:Nat} {ops:Array Oper} (h:WpO E round.isNone ops ops.toList fr H Q):Wp E fn round (.region id ops false) fr H Q:=by
 obtain ⟨x,⟨a,b⟩,c⟩:=h;exact ⟨x,⟨a,λk d=>by simp only [qh,zQ];exact b k d⟩,c⟩
theorem qz (h:Q .normal fr H):WpO E nd all [] fr H Q:=⟨(.normal,fr,H),⟨0,λ_ _=>rfl⟩,h⟩
def qa7 (o:Oper):Bool:=match o.op with | .defer _=>true | _=>false
theorem qfy {call:Call} {o:Oper} {l:List Oper} (a:qa7 o=false):ku E call nd all (o::l) fr H=match j8 E call all o fr H with
   | some (.ret v,H')=>ku E call nd all l (fr.put o.dst v) H'
   | some (.panic b,H')=>some (.panic b,fr,H')
   | none=>none:=by
 simp only [ku];split
 .rename_i c d;simp [qa7,d] at a
 .rfl
theorem qhc {o:Oper} {l:List Oper} {v:V} {H':Heap} (a:qa7 o=false) (hw:ky o all fr=some true) (h:zb E o fr H=some (.val v,H')) (k:WpO E nd all l (fr.put o.dst v) H' Q):WpO E nd all (o::l) fr H Q:=by
 obtain ⟨x,⟨b,c⟩,d⟩:=k;exact ⟨x,⟨b,λk e=>by rw [qfy a];simp only [j8,hw,h];exact c k e⟩,d⟩
theorem qto {o:Oper} {l:List Oper} {H':Heap} (a:qa7 o=false) (hw:ky o all fr=some true) (h:zb E o fr H=some (.skip,H')) (k:WpO E nd all l (fr.put o.dst zs) H' Q):WpO E nd all (o::l) fr H Q:=by
 obtain ⟨x,⟨b,c⟩,d⟩:=k;exact ⟨x,⟨b,λk e=>by rw [qfy a];simp only [j8,hw,h];exact c k e⟩,d⟩
theorem zbp {o:Oper} {l:List Oper} (a:qa7 o=false) (hw:ky o all fr=some false) (k:WpO E nd all l (fr.put o.dst zs) H Q):WpO E nd all (o::l) fr H Q:=by
 obtain ⟨x,⟨b,c⟩,d⟩:=k;exact ⟨x,⟨b,λk e=>by rw [qfy a];simp only [j8,hw];exact c k e⟩,d⟩
theorem q7e {o:Oper} {l:List Oper} {t:Tgt} {args:List V} {H1:Heap} (a:qa7 o=false) (hw:ky o all fr=some true) (h:zb E o fr H=some (.call t args,H1))
  (k:qaa E t args H1 λv H'=>WpO E nd all l (fr.put o.dst v) H' Q):WpO E nd all (o::l) fr H Q:=by
 obtain ⟨v,H',⟨b,c⟩,⟨x,⟨d,e⟩,f⟩⟩:=k;refine ⟨x,⟨max d b,λk g=>?_⟩,f⟩;rw [qfy a];simp only [j8,hw,h,c k (by omega)];exact e k (by omega)
theorem q7y {f:Nat} {args:List V} {s:List V->Heap->Option (CR×Heap)} {v:V} {H':Heap} {Q:V->Heap->Prop} (a:E.spec f=some s) (h:s args H=some (.ret v,H')) (b:Q v H'):qaa E (.func f) args H Q:=
 ⟨v,H',⟨1,λk c=>by
  obtain ⟨k,rfl⟩:∃ g,k=g+1:=⟨k-1,by omega⟩;simp only [ja,a,h]⟩,b⟩
def jh:List Dfr->Heap->Option Heap
 | [],H=>some H
 | .mark nm::ds,H=>match H.get nm with
  | some .dfr=>(H.upd nm .gone).bind λH'=>jh ds H'
  | _=>none
 | .call _::_,_=>none
theorem qjw {call:Call} {fuel:Nat} {md:Md}:∀ {ds:List Dfr} {H H':Heap},jh ds H=some H'->leave E call fuel ds md H=some (md,H')
 | [],H,H',h=>by simp only [jh,zS] at h;simp [leave,h]
 | .mark nm::ds,H,H',h=>by
  simp only [jh] at h;simp only [leave];split at h
  .rename_i a;rw [a];simp only [zI] at h ⊢;obtain ⟨H1,b,c⟩:=h;exact ⟨H1,b,qjw c⟩
  .cases h
 | .call d::ds,H,H',h=>by simp [jh] at h
theorem qb3 {f:Nat} {fi:FI} {c:Code} {args:List V} {Q:V->Heap->Prop} (d:E.spec f=none) (i:E.funcs f=some fi) (j:fi.body=some c)
  (h:Wp E f none c {tmps:=qbm args,n:=max args.length fi.ntmps,defers:=[]} H λe fr' H'=>(e=.normal∨e=.ret)/\∃ a,jh fr'.defers H'=some a/\∃ vs,zv E fr' a fi.results=some vs/\Q (oneOf vs) a):qaa E (.func f) args H Q:=by
 obtain ⟨⟨e,fr',H'⟩,⟨l,m⟩,o,a,p,vs,q,r⟩:=h;refine ⟨oneOf vs,a,⟨l+1,λk t=>?_⟩,r⟩;obtain ⟨k,rfl⟩:∃ g,k=g+1:=⟨k-1,by omega⟩;have b:qhx E (ja E k) (k+1) (e,fr',H')=some (.returning,fr',a):=by
  have s:=qjw (E:=E) (call:=ja E k) (fuel:=k+1) (md:=.returning) p;rcases o with rfl | rfl<;>simp [qhx,s]
 simp only [ja,d,i,j,zB,m k (by omega),b,qgb,q,zH]
theorem zb0 {f:Nat} {fi:FI} {args:List V} {v:V} {Q:V->Heap->Prop} (a:E.spec f=none) (b:E.funcs f=some fi) (c:fi.body=none) (h:zd8 fi.ext args=some v) (d:Q v H):qaa E (.func f) args H Q:=
 ⟨v,H,⟨1,λk e=>by
  obtain ⟨k,rfl⟩:∃ g,k=g+1:=⟨k-1,by omega⟩;simp only [ja,a,b,c,zB,h,zH]⟩,d⟩
structure Upd (fr:Fr) (d:Nat) (v:V) (fr':Fr):Prop where
 get:fr'.tmp d=some v
 other:∀ j,Nat.beq j d=false->fr'.tmp j=fr.tmp j
 n:fr'.n=fr.n
 ds:fr'.defers=fr.defers
theorem qpa {d:Nat} {v:V} (h:d<fr.n):Upd fr d v (fr.put (some d) v):=by
 obtain ⟨t,n,ds⟩:=fr;have a:Nat.blt d n=true:=by rw [Nat.blt_eq];exact h
 refine ⟨?_,λj b=>?_,?_,?_⟩
 .simp only [Fr.put,a,zO,Fr.tmp,Tree.zn,if_true]
 .have c:¬ j=d:=by
   intro e;rw [e] at b;have:Nat.beq d d=true:=by rw [Nat.beq_eq]
   rw [this] at b;cases b
  simp only [Fr.put,a,zO,Fr.tmp,Tree.zn,zF c]
 .simp only [Fr.put,a,zO]
 .simp only [Fr.put,a,zO]
theorem Upd.ne {d j:Nat} {v:V} {fr':Fr} {x:Option V} (u:Upd fr d v fr') (h:fr.tmp j=x) (a:Nat.beq j d=false:=by rfl):fr'.tmp j=x:=(u.other j a).trans h
theorem qdk {o:Oper} (a:o.guard=none):ky o all fr=some true:=by simp only [ky,a]
theorem qwr {o:Oper} {j d:Nat} {want b:Bool} (a:o.guard=some (j,want)) (c:(all[j]?).bind (·.dst)=some d) (e:fr.tmp d=some (.bool b)):ky o all fr=some (b == want):=by
 simp only [ky,a,c,e]
theorem q7b {o:Oper} {j d:Nat} {want:Bool} (a:o.guard=some (j,want)) (b:(all[j]?).bind (·.dst)=some d) (c:fr.tmp d=some (.bool want)):ky o all fr=some true:=by
 rw [qwr a b c];simp
theorem zj7 {o:Oper} {j d:Nat} {want:Bool} (a:o.guard=some (j,want)) (b:(all[j]?).bind (·.dst)=some d) (c:fr.tmp d=some (.bool (!want))):ky o all fr=some false:=by
 rw [qwr a b c];cases want<;>rfl
theorem q9e {o:Oper} {j d:Nat} {want:Bool} (a:o.guard=some (j,want)) (b:(all[j]?).bind (·.dst)=some d) (c:fr.tmp d=some zs):ky o all fr=some false:=by
 simp only [ky,a,b,c,zs]
theorem q4f {o:Oper} {l:List Oper} {v:V} {H':Heap} {d:Nat} (b:qa7 o=false) (hw:ky o all fr=some true) (a:o.dst=some d) (c:d<fr.n) (h:zb E o fr H=some (.val v,H')) (k:∀ fr',Upd fr d v fr'->WpO E nd all l fr' H' Q):WpO E nd all (o::l) fr H Q:=
 qhc b hw h (by rw [a];exact k _ (qpa c))
theorem zg2 {o:Oper} {l:List Oper} {d:Nat} (b:qa7 o=false) (hw:ky o all fr=some false) (a:o.dst=some d) (c:d<fr.n) (k:∀ fr',Upd fr d zs fr'->WpO E nd all l fr' H Q):WpO E nd all (o::l) fr H Q:=
 zbp b hw (by rw [a];exact k _ (qpa c))
theorem zbo {o:Oper} {l:List Oper} {t:Tgt} {args:List V} {d:Nat} (b:qa7 o=false) (hw:ky o all fr=some true) (a:o.dst=some d) (c:d<fr.n) (h:zb E o fr H=some (.call t args,H))
  {R:V->Heap->Prop} (e:qaa E t args H R) (k:∀ v H',R v H'->∀ fr',Upd fr d v fr'->WpO E nd all l fr' H' Q):WpO E nd all (o::l) fr H Q:=
 q7e b hw h (e.mono λv H' f=>by rw [a];exact k v H' f _ (qpa c))
theorem zj9 {o:Oper} {l:List Oper} {H':Heap} (b:qa7 o=false) (hw:ky o all fr=some true) (a:o.dst=none) (h:zb E o fr H=some (.skip,H')) (k:WpO E nd all l fr H' Q):WpO E nd all (o::l) fr H Q:=
 qto b hw h (by rw [a];exact k)
theorem qe {t:Nat} {v:V} (h:fr.tmp t=some v):opd fr H (.tmp t)=some v:=h
theorem jn:qay fr H []=some []:=rfl
theorem zg {x:Operand} {l:List Operand} {v:V} {vs:List V} (h:opd fr H x=some v) (a:qay fr H l=some vs):qay fr H (x::l)=some (v::vs):=by
 simp only [qay,h,a,zB,zH]
section
variable {o:Oper}
theorem zf {x:Operand} {v:V} (a:o.op=.move x) (b:opd fr H x=some v):zb E o fr H=some (.val v,H):=by simp only [zb,a,b,zH]
theorem qy {x:Operand} {v:V} (a:o.op=.assign x) (b:opd fr H x=some v):zb E o fr H=some (.val v,H):=by simp only [zb,a,b,zH]
theorem q0j {c x y:Operand} {v:V} (a:o.op=.pick c x y) (b:opd fr H c=some (.bool true)) (d:opd fr H x=some v):zb E o fr H=some (.val v,H):=by simp only [zb,a,b,d,zH,if_true]
theorem qtz {c x y:Operand} {v:V} (a:o.op=.pick c x y) (b:opd fr H c=some (.bool false)) (d:opd fr H y=some v):zb E o fr H=some (.val v,H):=by simp [zb,a,b,d]
theorem qbn {op:BinOp} {t u:TypeId} {x y:Operand} {k:IntKind} {i j:Int} {v:V} (b:o.op=.binOp op t x y u) (a:op≠.shl/\op≠.shr) (c:opd fr H x=some (.int k i)) (d:opd fr H y=some (.int k j)) (h:jb op k i j=some v):zb E o fr H=some (.val v,H):=by
 have e:qbr E op t (.int k i) (.int k j)=some v:=by
  cases op<;>first
   | (exact absurd rfl a.1)
   | (exact absurd rfl a.2)
   | (simp only [qbr,if_true];exact h)
 simp only [zb,b,c,d,zB,e,zH]
theorem q72 {t:TypeId} {x:Operand} {b:Bool} (a:o.op=.unOp .not t x) (c:opd fr H x=some (.bool b)):zb E o fr H=some (.val (.bool !b),H):=by
 simp only [zb,a,c,zB,q1z,zH]
theorem qfd {x:Operand} {i:Nat} {vs:List V} {v:V} (a:o.op=.extract x i) (b:opd fr H x=some (.tuple vs)) (h:vs[i]? = some v):zb E o fr H=some (.val v,H):=by
 simp only [zb,a,b,zB,h,zH]
theorem qe7 {c:Go.Call} {f:Operand} {a:V} {args:List V} {t:Tgt} {as:List V} (b:o.op=.call c) (d:c.callee=.value f) (e:opd fr H f=some a) (g:qay fr H c.args.toList=some args) (h:qdr a args=some (.call t as)):zb E o fr H=some (.call t as,H):=by
 simp only [zb,b,d,e,g,h,zB,zH]
theorem q1e:qhm fr H none=some none:=rfl
theorem qup {x:Operand} {v:V} (h:opd fr H x=some v):qhm fr H (some x)=some (some v):=by simp only [qhm,h,zH]
theorem q4w {lo hi d:Nat} {k:IntKind} {i:Int} (h:(lo:Int)<=i/\i<=hi):jx lo hi (some (.int k i)) d=some i.toNat:=by simp only [jx,h,and_self,if_true]
end
theorem qdj {c:Operand} {a b:Code} (d:opd fr H c=some (.bool true)) (h:Wp E fn round a fr H Q):Wp E fn round (.cond c a b) fr H Q:=q4e (t:=true) d h
theorem qb8 {c:Operand} {a b:Code} (d:opd fr H c=some (.bool false)) (h:Wp E fn round b fr H Q):Wp E fn round (.cond c a b) fr H Q:=q4e (t:=false) d (by simpa using h)
theorem qeg:zv E fr H []=some []:=rfl
theorem qc4 {t:Nat} {v:V} {rs:List ResultVar} {vs:List V} (h:fr.tmp t=some v) (a:zv E fr H rs=some vs):zv E fr H (.tmp t::rs)=some (v::vs):=by
 simp only [zv,h,a,zB,zH]
theorem ends {rs:List ResultVar} {vs:List V} {R:V->Heap->Prop} (b:fr.defers=[]) (c:zv E fr H rs=some vs) (h:R (oneOf vs) H):∃ a,jh fr.defers H=some a/\∃ vs,zv E fr a rs=some vs/\R (oneOf vs) a:=
 ⟨H,by rw [b];rfl,vs,c,h⟩
theorem qk {next:Fr->Heap->Prop} (h:next fr H):qte next Q .normal fr H:=h
theorem qgm {next:Fr->Heap->Prop} {id:Nat} (h:Q (.exit id) fr H):qte next Q (.exit id) fr H:=h
theorem qy8 {next:Fr->Heap->Prop} (h:Q .ret fr H):qte next Q .ret fr H:=h
theorem qa3 {id:Nat} (h:Q .normal fr H):qm2 id Q .normal fr H:=h
theorem qu4 {id id':Nat} (a:¬ id'=id) (h:Q (.exit id') fr H):qm2 id Q (.exit id') fr H:=by
 simp only [qm2,zF a];exact h
theorem qfb {id:Nat} (h:Q .normal fr H):qm2 id Q (.exit id) fr H:=by
 simp only [qm2,if_true];exact h
theorem wrap64 {x:Int} (a:-9223372036854775808<=x) (b:x<9223372036854775808):IntKind.wrap .i64 x=x:=by
 simp only [IntKind.wrap,IntKind.bits,IntKind.signed]
 first
  | omega
  | (simp;omega)
  | (rw [Int.bmod_eq_of_le]<;>omega)
theorem qwv {a b:Int} (c:-9223372036854775808<=a+b) (d:a+b<9223372036854775808):jb .add .i64 a b=some (.int .i64 (a+b)):=by
 simp only [jb,wrap64 c d]
theorem zuk {a b:Int} (c:-9223372036854775808<=a-b) (d:a-b<9223372036854775808):jb .sub .i64 a b=some (.int .i64 (a-b)):=by
 simp only [jb,wrap64 c d]
theorem qdi {t:Nat} {l:List Nat} (h:t ∈ l):({fr with tmps:=kl fr.tmps l .nil}:Fr).tmp t=fr.tmp t:=by
 simp only [Fr.tmp,jz,h,if_true]
theorem qrg {o:Oper}:ky o all {fr with tmps:=kl fr.tmps (o.looksAt all) .nil}=ky o all fr:=by
 unfold ky;split
 .rfl
 .rename_i j a b;split
  .rfl
  .rename_i d c;rw [qdi];simp [Oper.looksAt,b,c]
def zj (b:Array Nat) (i:Nat) (done:List Done):List Done:=done.filter λd=>!(b.getD i 0).testBit d.i
theorem qxd {d:Done} {l:List Nat}:qao d l .none=false:=by
 obtain ⟨i,fp,lo,hi,ds⟩:=d;cases fp<;>rfl
theorem ql8 {dels:List Nat}:qb6 H (zw H .none dels) .none dels=H:=by
 simp only [qb6,zw,Nat.sub_self,List.range'_zero,kl]
theorem q40 {P:Program} {sp:Nat->Option (List V->Heap->Option (CR×Heap))} (hm:P.follows .mixedOrders=true) (d:qme P=true) (j:∀ f s,sp f=some s->je P f s) {f:FuncId} {g:Func} {c:Code} (l:P.funcs[f]? = some g) (b:(g.name == "runtime.NumGoroutine")=false) (m:g.body=some c)
  {args:List V} {a:Array Value} {G:qj} {W:World} {R:V->Heap->Prop} (n:Sim H G W) (o:qn G W args a.toList) (h:qaa (qw P sp) (.func f) args H R) :
  Calls P f a W λe w'=>∃ v H' x i,R v H'/\e=.returned x/\Rel i w' v x/\Step H G W H' i w':=by
 obtain ⟨v,H',⟨k,p⟩,q⟩:=h;have r:qdx P (ja (qw P sp) k):=qa5 hm (zlg d) (q9r d) j k;refine (r.calls l b m (p k (zN _)) n o).mono λe w' ⟨i,st,t⟩=>?_;obtain ⟨x,rfl,u⟩:=t;exact ⟨v,H',x,i,q,rfl,u,st⟩
theorem zp {args:List V} {n:Nat} {ds:List Dfr} {i:Nat} {v:V} (h:args[i]? = some v):({tmps:=qbm args,n:=n,defers:=ds}:Fr).tmp i=some v:=by
 simp only [Fr.tmp,qbm,Tree.qi3,h]
def WpD (E:Env) (all:Array Oper) (b:Array Nat) (i:Nat) (l:List Oper) (done:List Done) (fr:Fr) (H:Heap) (Q:Ex->Fr->Heap->Prop):Prop:=
 ∃ x:Fr×Heap,(∃ a,∀ k,a<=k->qat E (ja E k) all b i l done fr H=some x)/\Q .normal x.1 x.2
theorem q7a {id:Nat} {ops:Array Oper} (h:WpD E ops (Region.before ops) 0 ops.toList [] fr H Q):Wp E fn round (.region id ops true) fr H Q:=by
 obtain ⟨x,⟨a,b⟩,c⟩:=h;exact ⟨(.normal,x.1,x.2),⟨a,λk d=>by simp only [qh,zO,b k d,zH]⟩,c⟩
section
variable {b:Array Nat} {i:Nat} {l:List Oper} {done:List Done} {o:Oper}
theorem zbn (h:Q .normal fr H):WpD E all b i [] done fr H Q:=⟨(fr,H),⟨0,λ_ _=>rfl⟩,h⟩
theorem qdd {fp:FP} {out:Out} {v:V} {K:Heap} (hw:ky o all fr=some true) (e:qfe E o fr=fp) (m:fp≠.call) (f:((zj b i done).any λd=>qao d ((zj b i done).flatMap Done.names) fp)=false)
  (g:zb E o {fr with tmps:=kl fr.tmps (o.looksAt all) .nil} (zw H fp ((zj b i done).flatMap Done.names))=some (out,K)) (a:out=.val v∨(out=.skip/\v=zs)) (n:H.next<=K.next)
  (k:WpD E all b (i+1) l (⟨i,fp,H.next,K.next,(zj b i done).flatMap Done.names⟩::done) (fr.put o.dst v) (qb6 H K fp ((zj b i done).flatMap Done.names)) Q):WpD E all b i (o::l) done fr H Q:=by
 obtain ⟨x,⟨p,q⟩,r⟩:=k;refine ⟨x,⟨p,λk s=>?_⟩,r⟩;have t:Nat.blt K.next H.next=false:=by
  rw [<-Bool.not_eq_true,Nat.blt_eq];omega
 have u:j8 E (ja E k) all o {fr with tmps:=kl fr.tmps (o.looksAt all) .nil} (zw H fp ((zj b i done).flatMap Done.names))=some (.ret v,K):=by
  rcases a with rfl | ⟨rfl,rfl⟩<;>simp only [j8,qrg,hw,g]
 have c:((done.filter λd=>!(b.getD i 0).testBit d.i).any λd=>qao d ((done.filter λd=>!(b.getD i 0).testBit d.i).flatMap Done.names) fp)=false:=f;have h:j8 E (ja E k) all o {fr with tmps:=kl fr.tmps (o.looksAt all) .nil} (zw H fp ((done.filter λd=>!(b.getD i 0).testBit d.i).flatMap Done.names))=some (.ret v,K):=u;have j:=q k s;simp only [qat,hw,zB,zO,e];cases fp with
 | call=>simp_all
 | _=>simp only [c,zQ,h,t];exact j
theorem zg1 (hw:ky o all fr=some false) (k:WpD E all b (i+1) l (⟨i,.none,H.next,H.next,(zj b i done).flatMap Done.names⟩::done) (fr.put o.dst zs) H Q):WpD E all b i (o::l) done fr H Q:=by
 obtain ⟨x,⟨f,g⟩,h⟩:=k;refine ⟨x,⟨f,λk j=>?_⟩,h⟩;have a:∀ (l:List Done) (dels:List Nat),(l.any λd=>qao d dels .none)=false:=by
  intro l dels;rw [<-Bool.not_eq_true,List.any_eq_true];rintro ⟨d,_,e⟩;rw [qxd] at e;cases e
 have m:Nat.blt H.next H.next=false:=by
  rw [<-Bool.not_eq_true,Nat.blt_eq];omega
 have c:∀ dels,(zw H .none dels).next=H.next:=λdels=>rfl
 simp only [qat,hw,zB,zQ,a,j8,qrg,ql8,c,m];exact g k j
def Calm (B:Nat) (done:List Done):Prop:=∀ d ∈ done,(d.fp=.none∨∃ l,d.fp=.reads l)/\B<=d.lo
theorem zd2 {B:Nat}:Calm B []:=λd h=>by cases h
theorem zb1 {B:Nat} {d:Done} (h:d.fp=.none∨∃ l,d.fp=.reads l) (b:B<=d.lo) (c:Calm B done):Calm B (d::done):=by
 intro x a;rcases zD.1 a with rfl | a
 .exact ⟨h,b⟩
 .exact c x a
theorem qw9 {B:Nat} (c:Calm B done) {fp:FP} (e:fp=.none∨∃ l,fp=.reads l) {dels:List Nat}:((zj b i done).any λd=>qao d dels fp)=false:=by
 rw [<-Bool.not_eq_true,List.any_eq_true];rintro ⟨d,f,h⟩;have a:=(c d (List.mem_filter.1 f).1).1;obtain ⟨m,g,j,k,n⟩:=d;rcases a with a | ⟨l,a⟩<;>rcases e with rfl | ⟨o,rfl⟩<;>subst a<;>cases h
theorem zb2 {B nm:Nat} (a:Calm B done) (h:nm<B):nm ∉ (zj b i done).flatMap Done.names:=by
 intro c;obtain ⟨d,e,f⟩:=List.mem_flatMap.1 c;have g:=(a d (List.mem_filter.1 e).1).2;have j:=(List.mem_range'_1.1 f).1;omega
theorem qho {l:List Nat} {dels:List Nat} {nm:Nat} (b:nm ∈ l) (c:nm<H.next) (d:nm ∉ dels):(zw H (.reads l) dels).get nm=H.get nm:=by
 have a:(Nat.blt nm H.next&&!dels.any λm=>Nat.beq nm m)=true:=qq8 c d;simp only [zw,Heap.get,jz];rw [zT (List.mem_filter.2 ⟨b,a⟩)]
theorem qju {l dels:List Nat}:qb6 H (zw H (.reads l) dels) (.reads l) dels=H:=by
 simp only [qb6,zw,Nat.sub_self,List.range'_zero,kl]
end
section
variable {o:Oper}
theorem jm {t:TypeId} {ti:TI} {x:Operand} {p v:V} (a:o.op=.load t x) (b:E.types t=some ti) (c:opd fr H x=some p) (h:jr H ti p=some v):zb E o fr H=some (.val v,H):=by
 simp only [zb,a,b,c,zB,h,zH]
theorem qxo {t:TypeId} {ti:TI} {x y:Operand} {p v:V} {H':Heap} (a:o.op=.store t x y) (b:E.types t=some ti) (c:opd fr H x=some p) (d:opd fr H y=some v) (h:qfm H ti p v=some H'):zb E o fr H=some (.skip,H'):=by
 simp only [zb,a,b,c,d,zB,h,zH]
theorem q5f {t:TypeId} {ti:TI} (a:o.op=.alloc t) (b:E.types t=some ti):zb E o fr H=some (.val (.ptr H.next 0 0 ti.zero.cells.length),z5 H ti.zero.cells t):=by
 simp only [zb,a,b,zH]
theorem qiz {t:TypeId} {x:Operand} {v:V} (a:o.op=.box t x) (b:opd fr H x=some v):zb E o fr H=some (.val (.ptr H.next 0 0 v.cells.length),z5 H v.cells t):=by
 simp only [zb,a,b,zB]
theorem qlr {t:TypeId} {ti fi:TI} {x:Operand} {k nm g off lim:Nat} {f:Field} (b:o.op=.fieldAddr t x k) (c:E.types t=some ti) (d:qc1 ti k=some f) (a:E.types f.type=some fi) (e:Nat.beq fi.size 0=false) (h:opd fr H x=some (.ptr nm g off lim)):zb E o fr H=some (.val (.ptr nm g (off+f.offset) lim),H):=by
 simp only [zb,b,c,d,a,e,h,zB,zQ]
theorem qnb {t:TypeId} {ti:TI} {parts:Array (Nat×Operand)} {b:Array Field} {vs cs:List V} (c:o.op=.build t parts) (d:E.types t=some ti) (hu:ti.under=.struct b) (e:qay fr H (parts.toList.map (·.2))=some vs) (a:b.toList.all (λf=>(E.types f.type).isSome)=true)
  (h:qds (λi=>(b[i]?).bind λf=>(E.types f.type).map λfi=>(f.offset,fi.size)) ti.zero.cells ((parts.toList.map (·.1)).zip vs)=some cs):zb E o fr H=some (.val (.agg cs),H):=by
 simp only [zb,c,d,e,zB,hu,a,Bool.not_true,zQ,h,zH]
theorem qpw {t e:TypeId} {ti a:TI} {len:Nat} {parts:Array (Nat×Operand)} {vs cs:List V} (b:o.op=.buildSlice t len parts) (c:E.types t=some ti) (hu:ti.under=.slice e) (he:E.types e=some a) (d:qay fr H (parts.toList.map (·.2))=some vs) (f:Nat.ble (len * a.size) 16777216=true)
  (h:qds (λi=>some (i * a.size,a.size)) (List.replicate len a.zero.cells).flatten ((parts.toList.map (·.1)).zip vs)=some cs):zb E o fr H=some (.val (.slice H.next 0 0 len a.size (some len)),z5 H cs e):=by
 simp only [zb,b,c,d,zB,hu,he,f,zO,h,zH]
theorem qc0 {t e:TypeId} {ti a:TI} {x y:Operand} {b c v:V} (d:o.op=.indexAddr t x y) (f:E.types t=some ti) (hu:ti.under=.slice e) (he:E.types e=some a) (g:opd fr H x=some b) (i:opd fr H y=some c) (h:kj a.size b c=some v):zb E o fr H=some (.val v,H):=by
 simp only [zb,d,f,g,i,zB,hu,he,h,zH]
theorem qi0 {c:Go.Call} {x:Operand} {t e:TypeId} {ti:TI} {nm g off len sz:Nat} {cap:Option Nat} (b:o.op=.call c) (d:c.callee=.builtin .len) (f:c.args.toList=[x]) (a:c.argTypes.toList=[t]) (h:E.types t=some ti) (hu:ti.under=.slice e) (i:opd fr H x=some (.slice nm g off len sz cap)):zb E o fr H=some (.val (.int .i64 len),H):=by
 simp only [zb,b,f,d,a,qay,i,zB,zH,qam,h,hu,qcn]
theorem qo5 {c:Go.Call} {x:Operand} {t e:TypeId} {ti:TI} (b:o.op=.call c) (d:c.callee=.builtin .len) (f:c.args.toList=[x]) (a:c.argTypes.toList=[t]) (g:E.types t=some ti) (hu:ti.under=.slice e) (h:opd fr H x=some .nils):zb E o fr H=some (.val (.int .i64 0),H):=by
 simp only [zb,b,f,d,a,qay,h,zB,zH,qam,g,hu,qcn];rfl
theorem q0i {c:Go.Call} {x y:Operand} {t u e i:TypeId} {ti g a:TI} {s z:V} {r:V×Heap} (j:o.op=.call c) (k:c.callee=.builtin .append) (l:c.args.toList=[x,y]) (b:c.argTypes.toList=[t,u]) (m:E.types t=some ti) (hu:ti.under=.slice e) (d:E.types u=some g) (f:g.under=.slice i) (he:E.types e=some a)
  (n:opd fr H x=some s) (p:opd fr H y=some z) (h:kv H e a.size a.bytes s z=some r):zb E o fr H=some (.val r.1,r.2):=by
 simp only [zb,j,l,k,b,qay,n,p,zB,zH,qam,m,hu,d,f,he,h]
theorem qnc {f:FuncId} {first captured:Array Operand} {a c:List V} (b:o.op=.makeFunc (.func f) first captured) (d:qay fr H first.toList=some a) (e:qay fr H captured.toList=some c):zb E o fr H=some (.val (.func (.func f) a c),H):=by
 simp only [zb,b,d,e,zB,zH]
end
theorem zl {x:O}:(H.new x).get H.next=some x:=by
 simp only [Heap.new,Heap.get,Tree.zn,if_true]
theorem ke {x:O} {nm:Nat} (h:nm<H.next):(H.new x).get nm=H.get nm:=by
 obtain ⟨t,n,r,g⟩:=H;have:¬ nm=n:=by simp only at h;omega
 simp only [Heap.new,Heap.get,Tree.zn,zF this]
theorem qi {x:O}:(H.new x).next=H.next+1:=by cases H;rfl
theorem qpy {x:O}:(H.new x).qp=H.qp:=by cases H;rfl
theorem qnh {x:O}:(H.new x).ro=H.ro:=by cases H;rfl
def Heap.put (H:Heap) (nm:Nat) (x:O):Heap:={H with qbu:=H.qbu.set nm x}
theorem kq {nm:Nat} {x:O} (h:H.ro<=nm):H.upd nm x=some (H.put nm x):=by
 obtain ⟨t,n,r,g⟩:=H;have a:Nat.blt nm r=false:=by
  rw [<-Bool.not_eq_true,Nat.blt_eq];simp only at h;omega
 simp only [Heap.upd,a,zQ,Heap.put]
theorem zo {nm:Nat} {x:O}:(H.put nm x).get nm=some x:=by simp only [Heap.put,Heap.get,Tree.zn,if_true]
theorem zd {nm m:Nat} {x:O} (h:m≠nm):(H.put nm x).get m=H.get m:=by simp only [Heap.put,Heap.get,Tree.zn,zF h]
theorem qpz {nm:Nat} {x:O}:(H.put nm x).next=H.next:=rfl
structure Keeps (H H':Heap):Prop where
 next:H.next<=H'.next
 ro:H'.ro=H.ro
 qp:H'.qp=H.qp
 old:∀ nm,nm<H.next->H'.get nm=H.get nm
theorem Keeps.refl (H:Heap):Keeps H H:=⟨zN _,rfl,rfl,λ_ _=>rfl⟩
theorem Keeps.trans {H H' a:Heap} (h:Keeps H H') (b:Keeps H' a):Keeps H a:=
 ⟨zR h.next b.next,b.ro.trans h.ro,b.qp.trans h.qp,λnm c=>(b.old nm (zL c h.next)).trans (h.old nm c)⟩
theorem Keeps.new {H H':Heap} (h:Keeps H H') (x:O):Keeps H (H'.new x):=
 ⟨by rw [qi];have:=h.next;omega,by rw [qnh];exact h.ro,by rw [qpy];exact h.qp,λnm a=>by rw [ke (zL a h.next)];exact h.old nm a⟩
theorem Keeps.put {H H':Heap} (h:Keeps H H') {nm:Nat} (b:H.next<=nm) (x:O):Keeps H (H'.put nm x):=
 ⟨h.next,h.ro,h.qp,λm a=>by rw [zd (by omega)];exact h.old m a⟩
def zkf (H:Heap) (nm g:Nat) (cells:List V):Prop:=∃ b a c exact,H.get nm=some (.row cells b g a c exact)/\a<=g/\c=0
theorem zf9 {nm g off lim n:Nat} {cells:List V} (h:zkf H nm g cells) (b:cells.any isHole=false) (d:off+n<=lim) (e:lim<=cells.length):zq H n (.ptr nm g off lim)=some ((cells.drop off).take n):=by
 obtain ⟨c,a,f,ex,i,j,_⟩:=h;have k:Nat.ble a g=true:=by rw [Nat.ble_eq];exact j
 have l:Nat.ble (off+n) lim=true:=by rw [Nat.ble_eq];exact d
 have m:Nat.ble lim cells.length=true:=by rw [Nat.ble_eq];exact e
 simp only [zq,i,k,l,m,Bool.and_self,zO,q59 b]
theorem ze2 {nm g off lim:Nat} {cells:List V} {ti:TI} {v:V} (h:zkf H nm g cells) (a:cells.any isHole=false) (c:ti.isAgg=false) (d:ti.size=1) (e:off+1<=lim) (f:lim<=cells.length) (i:cells[off]? = some v):jr H ti (.ptr nm g off lim)=some v:=by
 have j:(cells.drop off).take 1=[v]:=by
  obtain ⟨b,k⟩:=List.getElem?_eq_some_iff.1 i;rw [List.drop_eq_getElem_cons b,k];rfl
 simp only [jr,d,zf9 h a e f,zB,c,zQ,j]
section
variable {b:Array Nat} {i:Nat} {l:List Oper} {done:List Done} {o:Oper}
theorem zcf {x:O} {dels:List Nat}:qb6 H ((zw H .none dels).new x) .none dels=H.new x:=by
 obtain ⟨t,n,r,g⟩:=H;have a:(Tree.nil.set n x:Tree O).get n=some x:=by rw [Tree.zn,zT rfl]
 simp only [qb6,zw,Heap.new,Nat.add_sub_cancel_left,List.range'_one,kl,a]
theorem qmk {l:List Nat} {dels:List Nat} {nm:Nat} (b:nm ∈ l) (c:nm<H.next) (d:nm ∉ dels):(zw H (.writes l) dels).get nm=H.get nm:=by
 have a:(Nat.blt nm H.next&&!dels.any λm=>Nat.beq nm m)=true:=qq8 c d;simp only [zw,Heap.get,jz];rw [zT (List.mem_filter.2 ⟨b,a⟩)]
end
end
end Go.E2
