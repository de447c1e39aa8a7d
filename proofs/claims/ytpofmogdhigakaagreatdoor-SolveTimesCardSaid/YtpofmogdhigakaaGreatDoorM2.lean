/- A VERIFIED EVALUATOR, texts E2n, E2o, E2p, E2q, E2r, E2x, E2s, E2t, E2u, E2v, E2z in one. -/
import Derived.Test.YtpofmogdhigakaaGreatDoorM1
import Derived.TacticsIn
import Derived.LoopNIn
import Derived.RangeFuncLeaves
import Derived.RangeFuncCalls
import Derived.RecoverIn
import Derived.Laws.Externs
import Derived.Lib.Bytealg
import Derived.Lib.Builder
import Derived.ChangeSame
import Derived.RowKit
import Derived.OpenShut
import Derived.Deep.DeepHandedRow
/- E2: ONE OPERATION: what E2 makes of it the model makes of it. -/
namespace Go.E2
open Go
section
variable {P:Program} {sp:Nat->Option (List V->Heap->Option (CR×Heap))} {o:Oper} {a:Act} {H:Heap} {G:qj} {w:World} {fr:Fr}
theorem qzw {d:Nat} {t:TypeId} {a:Array Field} (h:qge P (d+1) t=true) (hu:P.underlying t=some (.struct a)):P.eqGuardType P.depth t=false:=by
 simp only [qge,hu,zA,Bool.not_eq_true'] at h;exact h.1.2
theorem q70 {op:BinOp} {t:TypeId} {x y:Operand} {p q v:V} {rx l:Value} {E:Env} (D:E=qw P sp) (A:Rel G w p rx) (B:Rel G w q l) (h:qbr E op t p q=some v)
  (i:p≠.nili∨q≠.nili∨(∃ c,x=.const c)∨(∃ c,y=.const c)):∀ w',(eqGuard op t x y rx l).run P w'=.ok () w':=by
 subst D;by_cases e:op=.eql∨op=.neq
 case neg=>
  unfold eqGuard;cases op<;>first | (simp;done) | exact (e (.inl rfl)).elim | exact (e (.inr rfl)).elim
 have f:∀ {u:V},Rel G w u .nilIface->u=.nili:=by
  intro u j;cases u<;>simp only [Rel,reduceCtorEq,false_and,and_false,exists_false] at j
  all_goals first
   | rfl
   | (simp at j;done)
   | grind
 have g:∀ {u:V} {m:Array Value},Rel G w u (.agg m)->∃ cs,u=.agg cs:=by
  intro u m j;cases u<;>simp only [Rel,reduceCtorEq,false_and,and_false,exists_false] at j
  all_goals first
   | exact ⟨_,rfl⟩
   | (simp at j;done)
   | grind
 have n:eqGuard op t x y rx l=eqGuard .eql t x y rx l:=by
  rcases e with rfl | rfl<;>rfl
 rw [n];unfold eqGuard;simp only [Bool.not_true,Bool.false_eq_true,if_false];split
 .have F:=f A;have k:=f B;rcases i with i | i | ⟨c,i⟩ | ⟨c,i⟩
  .simp_all
  .simp_all
  .subst i;simp
  .subst i;simp
 .obtain ⟨m,rfl⟩:=g A;obtain ⟨H,rfl⟩:=g B;have o:∃ b,eqV (qw P sp) 1000 t (.agg m) (.agg H)=some b:=by
   rcases e with rfl | rfl
   .simp only [qbr,zM] at h;obtain ⟨b,a,_⟩:=h;exact ⟨b,a⟩
   .simp only [qbr,zM] at h;obtain ⟨b,a,_⟩:=h;exact ⟨b,a⟩
  obtain ⟨b,a⟩:=o;have I:P.eqGuardType P.depth t=false:=by
   simp only [eqV] at a;split at a
   .cases a
   .rename_i ti J;have r:=(qm J).1;split at a<;>first
     | (cases a;done)
     | skip
    all_goals first
     | (rename_i k C;cases k;done)
     | (rename_i F k C;cases k;done)
     | skip
    rename_i M K L s k C;rw [cond_eq_ite] at a;split at a
    .rename_i z;exact qzw (d:=19) z (s ▸ r)
    .cases a
  simp [I]
 .simp
theorem qa2.length:∀ {a:List (V×V×Nat)} {l:List MapEntry},qa2 G w a l->a.length=l.length
 | [],_,h=>by simp only [qa2] at h;subst h;rfl
 | (k,v,b)::a,_,h=>by
  simp only [qa2] at h;obtain ⟨x,c,rfl,_,_,_,h⟩:=h;simp [qa2.length h]
theorem q04:∀ (l:List V) (x v:V) (rx:Value) (c:List Value),Rel G w x rx->qn G w l c->q3i false x l=some v->∃ d,(c.foldlM Builtin.min2 rx).run P w=.ok d w/\Rel G w v d
 | [],x,v,rx,c,e,a,h=>by
  simp only [qn] at a;subst a;simp only [q3i,zS] at h;subst h;exact ⟨rx,by simp,e⟩
 | u::l,x,v,rx,c,e,a,h=>by
  simp only [qn] at a;obtain ⟨m,f,rfl,g,a⟩:=a;unfold q3i at h;split at h
  .rename_i b;cases b
  .rename_i k p n q rest b;cases b;simp only [Rel] at e g;subst e;subst g;obtain ⟨d,i,j⟩:=q04 l _ v (.int k (if q<p then q else p)) f (by simp [Rel]) a h;exact ⟨d,by simp only [List.foldlM_cons,Builtin.min2,Sem.run_bind,Sem.run_pure,Result.andThen_ok];exact i,j⟩
  .cases h
theorem q03:∀ (l:List V) (x v:V) (rx:Value) (c:List Value),Rel G w x rx->qn G w l c->q3i true x l=some v->∃ d,(c.foldlM Builtin.max2 rx).run P w=.ok d w/\Rel G w v d
 | [],x,v,rx,c,e,a,h=>by
  simp only [qn] at a;subst a;simp only [q3i,zS] at h;subst h;exact ⟨rx,by simp,e⟩
 | u::l,x,v,rx,c,e,a,h=>by
  simp only [qn] at a;obtain ⟨m,f,rfl,g,a⟩:=a;unfold q3i at h;split at h
  .rename_i b;cases b
  .rename_i k p n q rest b;cases b;simp only [Rel] at e g;subst e;subst g;obtain ⟨d,i,j⟩:=q03 l _ v (.int k (if q > p then q else p)) f (by simp [Rel]) a h;exact ⟨d,by simp only [List.foldlM_cons,Builtin.max2,Sem.run_bind,Sem.run_pure,Result.andThen_ok];exact i,j⟩
  .cases h
theorem zj3 {a:Array TypeId} {ty:TypeId} {l c:Nat}:(Builtin.unsafeSliceData_ a ty #[.slice none l c]).run P w=.ok (.pointer none) w:=rfl
theorem zgx {a:Array TypeId} {ty:TypeId} {ad:Addr} {l c:Nat} (h:c≠0):(Builtin.unsafeSliceData_ a ty #[.slice (some ad) l c]).run P w=.ok (.pointer (some ad)) w:=by
 change Sem.run P (if c≠0 then pure (Value.pointer (some ad)) else _) w=_;rw [zT h];rfl
theorem qv3 (p:Sim H G w) (e:SimFr G w fr a) {c:Go.Call} {b:Builtin} (z:o.op=.call c) (A:c.callee=.builtin b) {args:List V} {out:Out} {H':Heap} (d:qay fr H c.args.toList=some args)
  (h:qam (qw P sp) b c.argTypes.toList args H=some (out,H')):ka P o a H G w H' out:=by
 unfold qam at h;split at h
 .
  split at h
  .rename_i t i;simp only [qw,zI] at h;obtain ⟨ti,C,h⟩:=h;have j:=(qm C).1;split at h
   .rename_i n F f;cases h;exact qum p e z A d i (λrx k ty=>by rw [f] at j;simp [Builtin.len_,run_underlying j])
   .rename_i s f;cases h;refine qum p e z A d i (λrx k ty=>?_);simp only [Rel] at k;subst k;rw [f] at j;have T:(ByteArray.mk s.toArray).size=s.length:=by simp [ByteArray.size]
    simp [Builtin.len_,run_underlying j,T]
   .rename_i F f;cases h;refine qum p e z A d i (λrx k ty=>?_);simp only [Rel] at k;subst k;rw [f] at j;simp [Builtin.len_,run_underlying j]
   .rename_i F nm g off len sz cap f;cases h;refine qum p e z A d i (λrx k ty=>?_);simp only [Rel] at k;obtain ⟨b,sh,n,ro,c,e',m,_,_,rfl,_⟩:=k;rw [f] at j;simp [Builtin.len_,run_underlying j]
   .rename_i kt et f;cases h;refine qum p e z A d i (λrx k ty=>?_);simp only [Rel] at k;subst k;rw [f] at j;simp [Builtin.len_,run_underlying j]
   .rename_i kt et nm f;split at h
    .rename_i es ck U;cases h;refine qum p e z A d i (λrx k ty=>?_);simp only [Rel] at k;obtain ⟨b,sh,n,B,rfl⟩:=k;obtain ⟨_,W,L,M⟩:=p.obj nm _ (p.lt _ _ _ _ _ B).2 U 0 b sh n B;rw [f] at j;have I:es.length=W.size:=by simpa using M.length
     simp [Builtin.len_,run_underlying j,getObj,Sem.run,L,I]
    .cases h
   .cases h
  .cases h
 .
  split at h
  .rename_i t u i;simp only [qw,zI] at h;obtain ⟨ti,C,ui,R,h⟩:=h;split at h
   .rename_i F e' f J;simp only [zI,zM,zP] at h;obtain ⟨S,y,⟨v,H1⟩,B,rfl,rfl⟩:=h;exact q1b p e z A d i C R f (.inl ⟨_,J⟩) y B
   .rename_i F f J;simp only [zI,zM,zP] at h;obtain ⟨S,y,⟨v,H1⟩,B,rfl,rfl⟩:=h;exact q1b p e z A d i C R f (.inr J) y B
   .cases h
  .cases h
 .
  split at h
  .rename_i t u i;simp only [qw,zI] at h;obtain ⟨ti,C,h⟩:=h;split at h
   .rename_i F f;simp only [zI] at h;obtain ⟨S,y,h⟩:=h;split at h
    .rename_i nm g off len sz cap nm' g' a3 a4 a7 a5;rw [cond_eq_ite] at h;split at h
     .rename_i K;simp only [zA,Nat.beq_eq] at K;obtain ⟨X,Y⟩:=K;subst X;subst Y;simp only [zI,zM,zP] at h;obtain ⟨r,E,H1,B,rfl,rfl⟩:=h;exact zi4 p e z A d i C f y E B
     .cases h
    .cases h
   .cases h
  .cases h
 .
  split at h
  .rename_i t i;simp only [qw,zI] at h;obtain ⟨ti,C,h⟩:=h;split at h
   .rename_i F f;split at h
    .simp only [zS,zP] at h;obtain ⟨rfl,rfl⟩:=h;exact q1c p e z A d i C f (.inl rfl)
    .rename_i nm g off len sz cap;simp only [zI] at h;obtain ⟨S,y,h⟩:=h;rw [cond_eq_ite] at h;split at h
     .rename_i K;rw [Nat.beq_eq] at K;subst K;split at h
      .rename_i Z;simp only [zS,zP] at h;obtain ⟨rfl,rfl⟩:=h;subst Z;exact q1c p e z A d i C f (.inr ⟨_,_,_,_,_,rfl⟩)
      .rename_i Z;simp only [zM,zP] at h;obtain ⟨H1,B,rfl,rfl⟩:=h;exact zfn p e z A d i C f y Z B
     .cases h
    .cases h
   .cases h
  .cases h
 .
  obtain ⟨E,cs,q⟩:=qcf (P:=P) p e z A d;obtain ⟨rx,D,k⟩:=qwl E;rw [D] at q;split at h
  .cases h;simp only [Rel] at k;subst k;exact ka.pure p (x:=.pointer none) (by rw [q];simp only [builtin,Sem.run_bind,zj3,Result.andThen_ok,Sem.run_pure]) (by simp [Rel])
  .rename_i nm g off len sz cap;rw [cond_eq_ite] at h;split at h
   .rename_i N;rw [Nat.blt_eq] at N;cases h;simp only [Rel] at k;obtain ⟨b,sh,n,ro,c,e',m,ad,e1,rfl,O,e3,e4,e5,e6,e7,e8,e9⟩:=k;have Q:c≠0:=by omega
    obtain rfl:ad=⟨b,ro,none⟩:=by
     rcases O with O | O
     .exact absurd O Q
     .exact O
    refine ka.pure p (x:=.pointer (some ⟨b,ro,none⟩)) (by rw [q];simp only [builtin,Sem.run_bind,zgx Q,Result.andThen_ok,Sem.run_pure]) ?_;simp only [Rel];refine ⟨b,sh,n,e1,e4,e5,?_⟩;have:ro=off-sh:=by omega
    rw [this]
   .cases h
  .cases h
 .
  split at h
  .rename_i pt it i;split at h
   .split at h
    .rename_i hn;subst hn;cases h;exact qq9 p e z A d i
    .cases h
   .rename_i n nm g lim;simp only [qw,zI] at h;obtain ⟨ti,C,h⟩:=h;split at h
    .rename_i F cells a6 a8 a0 a9 exact f a1;simp only [zI] at h;obtain ⟨S,y,h⟩:=h;split at h
     .rename_i K;obtain ⟨X,Y,b3,b4,b5⟩:=K;subst X;subst b5;simp only [zI,zM,zP] at h;obtain ⟨cs,a2,l,I,H1,R,rfl,rfl⟩:=h;exact qwb p e z A d i C f y Y a1 b3 b4 a2 I R
     .cases h
    .cases h
   .cases h
  .cases h
 .
  simp only [zM,zP] at h;obtain ⟨v,B,rfl,rfl⟩:=h;obtain ⟨E,cs,q⟩:=qcf (P:=P) p e z A d;simp only [qn] at E;obtain ⟨rx,rl,D,k,I⟩:=E;obtain ⟨rv,L,M⟩:=q04 (P:=P) _ _ _ _ _ k I B;refine ka.pure p (x:=rv) ?_ M;rw [q];simp only [builtin,Builtin.min_,D,Sem.run_bind,L,Result.andThen_ok,Sem.run_pure]
 .
  simp only [zM,zP] at h;obtain ⟨v,B,rfl,rfl⟩:=h;obtain ⟨E,cs,q⟩:=qcf (P:=P) p e z A d;simp only [qn] at E;obtain ⟨rx,rl,D,k,I⟩:=E;obtain ⟨rv,L,M⟩:=q03 (P:=P) _ _ _ _ _ k I B;refine ka.pure p (x:=rv) ?_ M;rw [q];simp only [builtin,Builtin.max_,D,Sem.run_bind,L,Result.andThen_ok,Sem.run_pure]
 .cases h
theorem q83 {b:Nat} {x} (h:w.shape? b=some x):(viewAt b).run P w=.ok none w:=by
 simp [viewAt,h]
theorem qyz {ad:Addr} {x} (h:w.shape? ad.block=some x):(Conv.seenAt ad).run P w=.ok ad w:=by
 simp [Conv.seenAt,q83 h]
theorem q6t {b:Nat} {t:TypeId} {k:Nat} (h:w.shape? b=some (t,k)):(cellsIn b).run P w=.ok (some k) w:=by
 simp [cellsIn,h]
theorem qv9 (f:Sim H G w) (e:SimFr G w fr a) {src dst h:TypeId} {B C i:TI} (j:typeOf P src=some B) (k:typeOf P dst=some C) (l:typeOf P h=some i) (m:B.under=.pointer h)
  (p:C.under=.unsafePointer) {x:Operand} (I:o.op=.convert src dst x) {nm g off lim:Nat} (J:opd fr H x=some (.ptr nm g off lim)) {cells:List V} {elem:TypeId} {gen floor r:Nat} {exact:Bool}
  (s:H.get nm=some (.row cells elem gen floor r exact)) (K:floor<=g) (N:0<i.size) (O:off+1<=lim):ka P o a H G w H (.val (.ptr nm g off lim)):=by
 have D:=qq f e J;have t:=D;obtain ⟨b,sh,n,E,Q,R,F⟩:=D;obtain ⟨_,_,q⟩:=f.obj nm _ (f.lt _ _ _ _ _ E).2 s;obtain ⟨_,_,_,_,_,L⟩:=q g b sh n E;obtain ⟨c,S,M,T,_⟩:=L K;have d:w.shape? b=some (elem,c.size):=by simp only [World.shape?,M]
 have u:P.underlying src=some (.pointer h):=m ▸ (qm j).1;have v:P.underlying dst=some .unsafePointer:=p ▸ (qm k).1;refine ka.pure f (x:=.pointer (some ⟨b,off-sh,none⟩)) ?_ (F ▸ t);have y:=z7 (P:=P) l;have z:¬ i.size=0:=by omega
 have A:¬ c.size<=off-sh:=by omega
 simp [execOp,I,F,convert,run_underlying u,run_underlying v,Conv.unsafePointer,qyz (P:=P) (ad:=⟨b,off-sh,none⟩) d,q6t (P:=P) d,y,z,A]
theorem qsw (f:Sim H G w) (e:SimFr G w fr a) {src dst c:TypeId} {F I h li:TI} (j:typeOf P src=some F) (k:typeOf P dst=some I) (l:typeOf P c=some h) (m:F.under=.unsafePointer)
  (p:I.under=.pointer c) {x:Operand} (M:o.op=.convert src dst x) {nm g off lim:Nat} (N:opd fr H x=some (.ptr nm g off lim)) {cells:List V} {elem:TypeId} {gen floor r:Nat}
  (s:H.get nm=some (.row cells elem gen floor r true)) (t:typeOf P elem=some li) (O:floor<=g) (Y:0<h.size) (Q:liesAt P P.depth elem (cells.length / li.size) off c 1=true):ka P o a H G w H (.val (.ptr nm g off lim)):=by
 have J:=qq f e N;have u:=J;obtain ⟨b,sh,n,K,Z,q2,L⟩:=J;obtain ⟨_,_,q⟩:=f.obj nm _ (f.lt _ _ _ _ _ K).2 s;obtain ⟨_,_,_,_,R,S⟩:=q g b sh n K;obtain ⟨v,fz,T,a2,_,_,U⟩:=S O;have d:w.shape? b=some (elem,v.size):=by simp only [World.shape?,T]
 have y:P.underlying src=some .unsafePointer:=m ▸ (qm j).1;have A:P.underlying dst=some (.pointer c):=p ▸ (qm k).1;have W:off-sh=off:=by have:=R rfl;omega
 refine ka.pure f (x:=.pointer (some ⟨b,off-sh,none⟩)) ?_ (L ▸ u);have B:=z7 (P:=P) l;have C:¬ h.size=0:=by omega
 have X:P.cellsOf elem=li.size:=by
  obtain ⟨_,_,i,z,hi,D,_⟩:=qm t;simp [Program.cellsOf,hi,D]
 have E:(variablesAt ⟨b,off-sh,none⟩ c 1).run P w=.ok true w:=by
  simp [variablesAt,program,Sem.run,d,X,W,U rfl,Q]
 simp [execOp,M,L,convert,run_underlying y,run_underlying A,Conv.unsafePointer,qyz (P:=P) (ad:=⟨b,off-sh,none⟩) d,B,C,E]
theorem qgv (C:Sim H G w) (e:SimFr G w fr a) {out:Out} {H':Heap} (h:zb (qw P sp) o fr H=some (out,H')):ka P o a H G w H' out:=by
 unfold zb at h;split at h
 .
  rename_i x d;simp only [zM,zP] at h;obtain ⟨v,A,rfl,rfl⟩:=h;exact zaw C e (.inl d) A
 .rename_i x d;simp only [zM,zP] at h;obtain ⟨v,A,rfl,rfl⟩:=h;exact zaw C e (.inr d) A
 .
  rename_i c x y d;split at h
  .rename_i b F;simp only [zM,zP] at h;obtain ⟨v,A,rfl,rfl⟩:=h;exact zi7 C e d F A
  .cases h
 .
  rename_i t d;simp only [qw,zM,zP] at h;obtain ⟨ti,E,rfl,rfl⟩:=h;exact zfl C d E
 .
  rename_i t x d;simp only [zI,zS,zP] at h;obtain ⟨v,A,rfl,rfl⟩:=h;exact zps C e d A
 .
  rename_i t parts d;simp only [qw,zI] at h;obtain ⟨ti,E,vs,N,h⟩:=h;split at h
  .rename_i fs z;simp only [cond_eq_ite,Bool.not_eq_true'] at h;split at h
   .cases h
   .rename_i a4;simp only [zM,zP] at h;obtain ⟨v,⟨cs,A,rfl⟩,rfl,rfl⟩:=h;refine qyj C e E z d N (λf Y=>?_) A;have Z:fs.toList.all (λf=>(typeOf P f.type).isSome)=true:=by
     cases I:fs.toList.all (λf=>(typeOf P f.type).isSome) with
     | true=>rfl
     | false=>exact absurd I a4
    have:=List.all_eq_true.1 Z f Y;exact Option.isSome_iff_exists.1 this
  .rename_i n O z;simp only [zI,zM,zP] at h;obtain ⟨M,D,v,⟨cs,A,rfl⟩,rfl,rfl⟩:=h;exact qzt C e E z D d N A
  .cases h
 .
  rename_i t len parts d;simp only [qw,zI] at h;obtain ⟨ti,E,vs,N,h⟩:=h;split at h
  .rename_i O z;simp only [zI,cond_eq_ite,Nat.ble_eq] at h;obtain ⟨M,D,h⟩:=h;split at h
   .rename_i F;simp only [zM,zP] at h;obtain ⟨cs,A,rfl,rfl⟩:=h;exact qzu C e E z D d N F A
   .cases h
  .cases h
 .
  rename_i t x d;simp only [qw,zI,zM,zP] at h;obtain ⟨ti,E,p,B,v,A,rfl,rfl⟩:=h;exact zi5 C e E d B A
 .
  rename_i t x y d;simp only [qw,zI,zM,zP] at h;obtain ⟨ti,E,p,B,v,N,H1,A,rfl,rfl⟩:=h;exact zfq C e E d B N A
 .
  rename_i x d;split at h<;>try (cases h;done)
  rename_i v n1 n2 n3 n4 N;cases h;refine q6e C e d N ?_;split
  .exact (n1 rfl).elim
  .exact (n2 rfl).elim
  .exact (n3 rfl).elim
  .exact (n4 _ _ _ rfl).elim
  .trivial
 .
  rename_i op t x y t' d;simp only [zI] at h;obtain ⟨p,B,q,I,h⟩:=h;have a0:∀ v,qbr (qw P sp) op t p q=some v->(p≠.nili∨q≠.nili∨(∃ c,x=.const c)∨(∃ c,y=.const c))->ka P o a H G w H (.val v):=
   λv N hc=>zfm rfl rfl C e d B I (q70 rfl (qq C e B) (qq C e I) N hc) N
  split at h
  .split at h
   .simp only [zM,zP] at h;obtain ⟨v,A,rfl,rfl⟩:=h;exact a0 v A (.inr (.inr (.inl ⟨_,rfl⟩)))
   .simp only [zM,zP] at h;obtain ⟨v,A,rfl,rfl⟩:=h;exact a0 v A (.inr (.inr (.inr ⟨_,rfl⟩)))
   .cases h
  .rename_i hn;simp only [zM,zP] at h;obtain ⟨v,A,rfl,rfl⟩:=h;refine a0 v A ?_;by_cases a5:p=.nili
   .by_cases a6:q=.nili
    .exact (hn a5 a6).elim
    .exact .inr (.inl a6)
   .exact .inl a5
 .
  rename_i op t x d;simp only [zI,zM,zP] at h;obtain ⟨p,B,v,A,rfl,rfl⟩:=h;exact zi8 C e d B A
 .
  rename_i ah dst x d;simp only [qw,zI] at h;obtain ⟨si,Q,di,R,p,B,h⟩:=h;split at h
  .rename_i k0 k k' n J K;cases h;exact q8l C e Q R J K d B
  .rename_i s J K;cases h;exact q8m C e Q R J K d B
  .rename_i O J K;split at h
   .cases h
   .rename_i aa;simp only [zI] at h;obtain ⟨M,D,h⟩:=h;split at h
    .rename_i ab;simp only [zI,zM,zP] at h;obtain ⟨r,X,l,hl,rfl,rfl⟩:=h;exact q3n C e Q R D J ab K d B (λs I=>aa s I) X hl
    .cases h
  .rename_i O nm g off lim J K;simp only [zI] at h;obtain ⟨M,D,h⟩:=h;split at h
   .rename_i c1 c2 c3 S c4 c5 T;rw [cond_eq_ite] at h;split at h
    .rename_i F;simp only [zA,Nat.ble_eq,Nat.blt_eq] at F;cases h;exact qv9 C e Q R D J K d B T F.1.1 F.1.2 F.2
    .cases h
   .cases h
  .rename_i O nm g off lim J K;simp only [zI] at h;obtain ⟨M,D,h⟩:=h;split at h
   .rename_i cells ag c3 S c4 T;simp only [zI] at h;obtain ⟨li,ad,h⟩:=h;rw [cond_eq_ite] at h;split at h
    .rename_i F;simp only [zA,Nat.ble_eq,Nat.blt_eq] at F;cases h;exact qsw C e Q R D J K d B T ad F.1.1 F.1.2 F.2
    .cases h
   .cases h
  .cases h
 .
  rename_i t x d;simp only [qw,zI] at h;obtain ⟨ti,E,h⟩:=h;split at h
  .cases h
  .rename_i a1;simp only [zM,zP] at h;obtain ⟨v,⟨p,B,rfl⟩,rfl,rfl⟩:=h;exact qun C e E (λms hm=>a1 ms hm) d B
 .
  rename_i fn first a3 d
  simp only [zI,zM,zP] at h;obtain ⟨p,B,q,I,rfl,rfl⟩:=h;exact q6d C e d B I
 .
  rename_i t r d;simp only [qw,zI] at h;obtain ⟨ti,E,h⟩:=h;split at h
  .rename_i kt et z;cases h;exact qyk C e E z d (λx hx=>by cases hx)
  .rename_i kt et x z;simp only [zI] at h;obtain ⟨p,B,h⟩:=h;split at h
   .cases h;exact qyk C e E z d (λx hx=>by cases hx;exact ⟨_,_,B⟩)
   .cases h
  .cases h
 .
  rename_i t x y d;simp only [qw,zI] at h;obtain ⟨ti,E,p,B,q,I,h⟩:=h;split at h
  .rename_i O l c z;simp only [zI] at h;obtain ⟨M,D,h⟩:=h;split at h
   .rename_i F;cases h;exact q3q C e E z D d B I F.1 F.2.1 F.2.2.1 F.2.2.2
   .cases h
  .cases h
 .
  rename_i t x lo hi d;simp only [qw,zI] at h;obtain ⟨ti,E,p,B,vlo,U,ae,V,h⟩:=h;split at h
  .rename_i O z;split at h
   .cases h
   .rename_i a7;simp only [zI,zM,zP] at h;obtain ⟨M,D,v,A,rfl,rfl⟩:=h;exact q8o C e E z D d B U V (λs C=>a7 s C) A
  .rename_i z;split at h
   .simp only [zM,zP] at h;obtain ⟨v,A,rfl,rfl⟩:=h;exact q6h C e E z d B U V A
   .cases h
  .rename_i n O z;simp only [zI] at h;obtain ⟨M,D,h⟩:=h;split at h
   .split at h
    .rename_i c1 c2 c3 S c4 c5 T;rw [cond_eq_ite] at h;split at h
     .rename_i F;simp only [zA,Nat.ble_eq] at F;simp only [zM,zP] at h;obtain ⟨v,A,rfl,rfl⟩:=h;exact q6f C e E z D d B U V T F.1 F.2 A
     .cases h
    .cases h
   .cases h
  .cases h
 .
  rename_i t x lo hi mx d;simp only [qw,zI] at h;obtain ⟨ti,E,p,B,vlo,U,ae,V,ai,af,h⟩:=h;split at h
  .rename_i O nm g off len sz cap z;simp only [zI,zM,zP] at h;obtain ⟨M,D,v,A,rfl,rfl⟩:=h;exact q6g C e E z D d B U V af A
  .cases h
 .
  rename_i s x k d;simp only [qw,zI,cond_eq_ite,Nat.beq_eq] at h;obtain ⟨ti,E,f,Y,fi,a2,h⟩:=h;split at h
  .cases h
  .rename_i hz;simp only [zI] at h;obtain ⟨p,B,h⟩:=h;split at h
   .cases h;exact q3o C e E d Y a2 hz B rfl
   .cases h
 .
  rename_i t x k d;simp only [qw,zI] at h;obtain ⟨ti,E,f,Y,fi,a2,p,B,h⟩:=h;split at h
  .simp only [zM,zP] at h;obtain ⟨v,A,rfl,rfl⟩:=h;exact zfo C e E Y a2 d B A
  .cases h
 .
  rename_i t x i d;simp only [qw,zI] at h;obtain ⟨ti,E,p,B,q,I,h⟩:=h;split at h
  .rename_i O z;simp only [zI,zM,zP] at h;obtain ⟨M,D,v,A,rfl,rfl⟩:=h;exact q3p C e E z D d B I A
  .rename_i n O z;simp only [zI] at h;obtain ⟨M,D,h⟩:=h;split at h
   .split at h
    .rename_i F;cases h;exact qwa C e E z D d B I F.1 F.2 rfl
    .cases h
   .cases h
  .cases h
 .
  rename_i t x i d;simp only [qw,zI] at h;obtain ⟨ti,E,p,B,q,I,h⟩:=h;split at h
  .rename_i z;split at h
   .rename_i F;simp only [zM,zP] at h;obtain ⟨b,A,rfl,rfl⟩:=h;exact q6c C e E z d B I F A
   .cases h
  .rename_i n O cs k j z;simp only [zI] at h;obtain ⟨M,D,h⟩:=h;split at h
   .rename_i F;simp only [zM,zP] at h;obtain ⟨v,A,rfl,rfl⟩:=h;exact q6b C e E z D d B I F A
   .cases h
  .cases h
 .
  rename_i t i d;simp only [zI] at h;obtain ⟨p,B,h⟩:=h;split at h
  .simp only [zM,zP] at h;obtain ⟨v,A,rfl,rfl⟩:=h;exact q8n C e d B A
  .cases h
 .
  rename_i c d;simp only [zI] at h;obtain ⟨args,W,h⟩:=h;split at h
  .rename_i f hc;simp only [zI,zM,zP] at h;obtain ⟨fv,Y,a8,A,rfl,rfl⟩:=h;cases a8 with
   | call aj vs=>exact zi3 C e d hc W Y A
   | _=>unfold qdr at A;split at A<;>cases A
  .rename_i b hc;exact qv3 C e d hc W h
  .cases h
 .
  rename_i t m k ok d;simp only [qw,zI] at h;obtain ⟨ti,E,p,B,q,I,h⟩:=h;split at h
  .rename_i kt et z;simp only [zI,zM] at h;obtain ⟨ki,hk,M,he,r,X,h⟩:=h;have:=zcq C e E z hk he d X B I;cases r with
   | none=>cases h;exact this
   | some y=>cases h;exact this
  .cases h
 .
  rename_i t m k x d;simp only [qw,zI] at h;obtain ⟨ti,E,p,B,q,I,u,hu,h⟩:=h;split at h
  .rename_i kt et nm z;simp only [zI] at h;obtain ⟨ki,hk,h⟩:=h;split at h
   .rename_i es ck L;simp only [zI] at h;obtain ⟨r,X,h⟩:=h;split at h
    .simp only [zM,zP] at h;obtain ⟨H1,A,rfl,rfl⟩:=h;exact qid C e E z hk (.inl d) B I hu L X A
    .simp only [zM,zP] at h;obtain ⟨H1,A,rfl,rfl⟩:=h;exact qid C e E z hk (.inl d) B I hu L X A
   .cases h
  .cases h
 .
  rename_i t m k x d;simp only [qw,zI] at h;obtain ⟨ti,E,p,B,q,I,u,hu,h⟩:=h;split at h
  .rename_i kt et nm z;simp only [zI] at h;obtain ⟨ki,hk,h⟩:=h;split at h
   .rename_i es ck L;simp only [zI] at h;obtain ⟨r,X,h⟩:=h;split at h
    .simp only [zM,zP] at h;obtain ⟨H1,A,rfl,rfl⟩:=h;exact qid C e E z hk (.inr d) B I hu L X A
    .simp only [zM,zP] at h;obtain ⟨H1,A,rfl,rfl⟩:=h;exact qid C e E z hk (.inr d) B I hu L X A
   .cases h
  .cases h
 .
  rename_i x xt t ok d;simp only [qw,zI] at h;obtain ⟨ti,E,h⟩:=h;split at h
  .cases h
  .rename_i a1;simp only [zI,zM,zP] at h;obtain ⟨p,B,v,A,rfl,rfl⟩:=h;exact qzv C e E (λms hm=>a1 ms hm) d B A
 .
  rename_i x d;simp only [zI] at h;obtain ⟨p,B,h⟩:=h;split at h
  .cases h;have A:=qq C e B;have a9:=A;simp only [Rel] at a9;obtain ⟨y,h2,h3⟩:=a9;refine ⟨rfl,a.eval x,?_,A⟩;simp only [execOp,d,Sem.run_bind,h2,Instr.panic,goPanic];rfl
  .cases h
 .
  rename_i t x d;simp only [qw,zI] at h;obtain ⟨ti,E,p,B,h⟩:=h;split at h
  .rename_i s z;cases h;exact zfp C e E z d B
  .cases h
 .
  rename_i x d;simp only [zI] at h;obtain ⟨p,B,h⟩:=h;split at h
  .split at h
   .rename_i s ak L;exact zi6 C e d B L h
   .cases h
  .cases h
 .cases h
end
end Go.E2
/- E2: CODE: what E2 makes of it the model makes of it. -/
namespace Go.E2
open Go
def qeu (F:Fence):Prop:=(∀ f,F.fn f)/\F.depth=none/\F.alive=false
theorem qeu.inRound {F:Fence} (h:qeu F) (l:Nat):qeu (F.inRound l):=h
def qz7 (G:qj) (w:World) (p:PE) (q:PanicEntry):Prop:=Rel G w p.v q.v/\p.recovered=q.recovered/\p.goexit=q.goexit
def qps (G:qj) (w:World):List PE->List PanicEntry->Prop
 | [],l=>l=[]
 | p::ps,l=>∃ q a,l=q::a/\qz7 G w p q/\qps G w ps a
def qpt (G:qj) (w:World):Ex->Exit->Prop
 | .normal,e=>e=.normal
 | .exit id,e=>e=.exit id
 | .goto l,e=>e=.goto l
 | .ret,e=>e=.ret
 | .panic b,e=>∃ a,e=.panic a/\qps G w b a
def qqo (H:Heap) (G:qj) (w:World) (x:Ex×Fr×Heap):Exit->Act->World->Prop:=
 λe b w'=>∃ a,Step H G w x.2.2 a w'/\SimFr a w' x.2.1 b/\qpt a w' x.1 e
def qio (G:qj) (w:World):CR->Ending->Prop
 | .ret v,e=>∃ x,e=.returned x/\Rel G w v x
 | .panic b,e=>∃ a,e=.panicked a/\qps G w b a
def qdx (P:Program) (c:Call):Prop:=
 ∀ i args H r H',c i args H=some (r,H')->∀ G w t a,Sim H G w->zdb G w i args t a->
  (∃ x w' g v,(invoke t a).run P w=.ok (.value x) w'/\Step H G w H' g w'/\r=.ret v/\Rel g w' v x)∨
  (∃ f b,(invoke t a).run P w=.ok (.enter f b) w/\∀ F n,qeu F->CallsIn F n P f b w λe w'=>∃ g,Step H G w H' g w'/\qio g w' r e)∨
  (∃ l f h d body,(invoke t a).run P w=.ok (.round l f h d body) w/\∀ F n,qeu F->RoundIn F n P l f h d body w λe w'=>∃ g,Step H G w H' g w'/\qio g w' r e)
section
variable {P:Program} {sp:Nat->Option (List V->Heap->Option (CR×Heap))} {call:Call} {H:Heap} {G:qj} {w:World} {fr:Fr} {a:Act} {F:Fence} {n:Nat}
theorem zi1 {v:V} {b:Bool} (h:Rel G w v (.bool b)) (a:∀ c,v≠.bool c):False:=by
 cases v<;>simp only [Rel,reduceCtorEq,false_and,and_false,exists_false] at h
 all_goals first
  | exact a _ rfl
  | (split at h<;>simp at h;done)
  | grind
theorem qg7 {o:Oper} {all:Array Oper} (e:SimFr G w fr a) {b:Bool} (h:ky o all fr=some b):Region.wanted o (yielded all a.tmps)=b:=by
 unfold Region.wanted;unfold ky at h;cases q:o.guard with
 | none=>simp_all
 | some g=>
  obtain ⟨j,p⟩:=g;rw [q] at h;simp only at h ⊢;cases f:(all[j]?).bind (·.dst) with
  | none=>rw [f] at h;simp at h;simp [yielded,f,h]
  | some t=>
   rw [f] at h;simp only at h;split at h
   .rename_i k l;have d:=qlg e l;simp only [yielded,f,zB];simp only [Rel] at d;have c:a.tmps[t]? = some (.bool k):=by
     cases i:a.tmps[t]? with
     | none=>rw [Array.getD_eq_getD_getElem?,i] at d;simp [undef] at d
     | some y=>simp_all
    simpa [c] using h
   .rename_i v m l;have d:=qlg e l;simp only [yielded,f,zB];cases h;have r:∀ b,a.tmps[t]?≠some (.bool b):=by
     intro b i;have s:a.tmps.getD t undef=.bool b:=by rw [Array.getD_eq_getD_getElem?,i];rfl
     rw [s] at d;exact zi1 d (λk n=>m k (by rw [n]))
    cases i:a.tmps[t]? with
    | none=>simp
    | some y=>simp_all
   .cases h
theorem qhe (b:qeu F) {o:Oper}:∀ f,o.about P w a.eval=some f->F.fn f:=λf _=>b.1 f
theorem qoo (M:qdx P call) (k:qeu F) (m:Sim H G w) (e:SimFr G w fr a) {all:Array Oper} {o:Oper} {r:CR} {H':Heap} (h:j8 (qw P sp) call all o fr H=some (r,H'))
  {K:Act->World->Prop} {Q:Exit->Act->World->Prop} (u:∀ v y w' g,r=.ret v->Step H G w H' g w'->Rel g w' v y->K (a.put o.dst y) w')
  (D:∀ w' g B i,r=.panic B->Step H G w H' g w'->qps g w' B i->Q (.panic i) a w') :
  if Region.wanted o (yielded all a.tmps) then o.wpIn F n P a w K Q else (∀ f,o.about P w a.eval=some f->F.fn f)/\K (a.put o.dst undef) w:=by
 unfold j8 at h;split at h
 .rename_i E;rw [qg7 e E,zT rfl];have j:∀ c,zb (qw P sp) o fr H≠none->o.op≠.defer c:=by
   intro c I N;apply I;simp only [zb,N]
  split at h
  .rename_i v H1 b;cases h;obtain ⟨y,w',g,p,q,O⟩:=qgv m e b;refine ⟨qhe k,?_⟩;rw [Oper.semAt_eq _ _ _ (λc=>j c (by rw [b];simp)),p];exact u _ _ _ _ rfl q O
  .rename_i H1 b;cases h;obtain ⟨w',g,p,q⟩:=qgv m e b;refine ⟨qhe k,?_⟩;rw [Oper.semAt_eq _ _ _ (λc=>j c (by rw [b];simp)),p];exact u _ _ _ _ rfl q qim
  .rename_i R args H1 b;obtain ⟨rfl,t,J,p,q⟩:=qgv m e b;refine ⟨qhe k,?_⟩;rw [Oper.semAt_eq _ _ _ (λc=>j c (by rw [b];simp)),p];have L:F.depth.isSome=true->1<=n:=by rw [k.2.1];simp
   rcases M _ _ _ _ _ h _ _ _ _ m q with ⟨y,w',g,V,x,z,S,T⟩ | ⟨f,C,x,z⟩ | ⟨l,f,tmps,assign,body,x,z⟩
   .subst S;rw [x];exact u _ _ _ _ rfl z T
   .rw [x];refine ⟨L,(z F (n-1) k).mono λU w' s=>?_⟩;obtain ⟨g,A,d⟩:=s;cases r with
    | ret v=>obtain ⟨y,rfl,d⟩:=d;exact u _ _ _ _ rfl A d
    | panic B=>obtain ⟨i,rfl,d⟩:=d;exact D _ _ _ _ rfl A d
   .rw [x];refine ⟨L,(z F (n-1) k).mono λU w' s=>?_⟩;obtain ⟨g,A,d⟩:=s;cases r with
    | ret v=>obtain ⟨y,rfl,d⟩:=d;exact u _ _ _ _ rfl A d
    | panic B=>obtain ⟨i,rfl,d⟩:=d;exact D _ _ _ _ rfl A d
  .rename_i v H1 b;cases h;obtain ⟨rfl,y,p,q⟩:=qgv m e b;refine ⟨qhe k,?_⟩;rw [Oper.semAt_eq _ _ _ (λc=>j c (by rw [b];simp)),p];refine D w G _ _ rfl (Step.refl m) ?_;exact ⟨_,_,rfl,⟨q,rfl,rfl⟩,rfl⟩
  .cases h
 .rename_i E;rw [qg7 e E];cases h;exact ⟨qhe k,u _ _ _ _ rfl (Step.refl m) qim⟩
 .cases h
theorem qqo.trans {H':Heap} {c:qj} {w':World} (h:Step H G w H' c w') {x:Ex×Fr×Heap} {ex:Exit} {d:Act} {a:World} (e:qqo H' c w' x ex d a):qqo H G w x ex d a:=by
 obtain ⟨b,f,g,i⟩:=e;exact ⟨b,h.trans f,g,i⟩
theorem q46 (j:Sim H G w) (e:SimFr G w fr a) {c:Go.Call} {d:D} (h:qhr fr H c=some d) (ty:TypeId):∃ rd,(resolve a.eval c ty).run P w=.ok rd w/\qws G w d rd:=by
 unfold qhr at h;split at h
 .rename_i f n;simp only [zI] at h;obtain ⟨args,b,v,o,h⟩:=h;split at h
  .rename_i g first i
   cases h;have p:=qfk j e b;have k:=qq j e o;simp only [Rel] at k;obtain ⟨q,r,l,s,m,t,u⟩:=k;simp only [qkx] at m;subst m;refine ⟨{target:=.fn (.func g) l,args:=r++c.args.map a.eval},?_,.func g,l,rfl,rfl,u,?_⟩
   .simp [resolve,n,s,Deferred.ofValue]
   .rw [Array.toList_append];exact t.append (by simpa using p)
  .cases h
 .cases h
theorem qig (m:qdx P call) (f:qeu F) {nd:Bool} (b:nd=true->F.round=none) {all:Array Oper}:∀ (l:List Oper) (H:Heap) (G:qj) (w:World) (fr:Fr) (a:Act) (x:Ex×Fr×Heap) (Q:Exit->Act->World->Prop),Sim H G w->SimFr G w fr a->
  ku (qw P sp) call nd all l fr H=some x->(∀ e C w',qqo H G w x e C w'->Q e C w')->wpListIn F n P all Q l a w
 | [],H,G,w,fr,a,x,Q,g,e,h,i=>by
  simp only [ku,zS] at h;subst h;exact i _ _ _ ⟨G,Step.refl g,e,rfl⟩
 | o::l,H,G,w,fr,a,x,Q,g,e,h,i=>by
  simp only [ku] at h;split at h
  .rename_i c D;simp only [wpListIn];split at h
   .rename_i r;rw [qg7 e r,zT rfl];cases nd with
    | false=>simp at h
    | true=>
     simp only [zO,zI] at h;obtain ⟨d,E,h⟩:=h;obtain ⟨rd,I,J⟩:=q46 (P:=P) g e E o.type;refine ⟨qhe f,?_⟩;have s:(o.semAt F.round a.eval).run P w=.ok (.defer rd) w:=by
      rw [b rfl,Oper.semAt_none];simp only [execOp,D,Sem.run_bind,I,Result.andThen_ok,Sem.run_pure]
     rw [s,Oper.uponIn_defer];have K:SimFr G w (fr.push d) {a with defers:=rd::a.defers}:=by
      obtain ⟨t,k,ds⟩:=fr;exact ⟨e.tmps,e.n,by simp only [Fr.push,qan];exact ⟨rd,a.defers,rfl,e.dfr,J⟩⟩
     exact qig m f b l H G w _ _ x Q g (K.put _ qim) h i
   .rename_i r;rw [qg7 e r];simp only [Bool.false_eq_true,if_false];exact ⟨qhe f,qig m f b l H G w _ _ x Q g (e.put _ qim) h i⟩
   .cases h
  .split at h
   .rename_i v H' u;refine qoo m f g e u (λL y w' p z j A=>?_) (λw' p M q B=>by cases B);cases z;exact qig m f b l H' p w' _ _ x Q j.sim ((e.ext j.ext).put _ A) h (λe N O R=>i _ _ _ (R.trans j))
   .rename_i M H' u;cases h;refine qoo m f g e u (λL y w' p z=>by cases z) (λw' p S q B j A=>?_);cases B;exact i _ _ _ ⟨p,j,e.ext j.ext,⟨q,rfl,A⟩⟩
   .cases h
def qts (P:Program) (sp:Nat->Option (List V->Heap->Option (CR×Heap))) (call:Call):Prop:=
 ∀ (ops:Array Oper) (fr:Fr) (H:Heap) (fr':Fr) (H':Heap),qat (qw P sp) call ops (Region.before ops) 0 ops.toList [] fr H=some (fr',H')->qxh ops=true->
  ∀ (G:qj) (w:World) (a:Act) (F:Fence) (n:Nat) (id:Nat) (Q:Exit->Act->World->Prop),qeu F->Sim H G w->SimFr G w fr a->(∀ e b w',qqo H G w (.normal,fr',H') e b w'->Q e b w')->(Code.region id ops true).wpIn F n P Q a w
def qky (G:qj):Option Nat->Option Nat->Prop
 | none,r=>r=none
 | some l,r=>∃ b sh n,G l 0=some (b,sh,n)/\r=some b
theorem qky.sub {G a:qj} (h:∀ nm g x,G nm g=some x->a nm g=some x) {r c:Option Nat} (e:qky G r c):qky a r c:=by
 cases r with
 | none=>exact e
 | some l=>obtain ⟨b,sh,n,d,f⟩:=e;exact ⟨b,sh,n,h _ _ _ d,f⟩
theorem qfz {b:Frame} {k:List Item} {cs:List Frame} {c:Code}:step P (lone (b.atR a (.code (.scope c)::k)) cs w)=.next (lone (b.atR a (.code c::.inScope c::k)) cs w):=
 step_lone_go (by simp [stepG,stepG.exec,Frame.atR])
theorem qz1 {b:Frame} {k:List Item} {cs:List Frame} {c:Code}:step P (lone (b.atR a (.inScope c::k)) cs w)=.next (lone (b.atR a k) cs w):=
 step_lone_go (by simp [stepG,stepG.exec,Frame.atR])
def noGoto (Q:Exit->Act->World->Prop):Exit->Act->World->Prop
 | .goto _,_,_=>False
 | e,a,w=>Q e a w
theorem q9f {c:Code} {Q:Exit->Act->World->Prop} (h:c.wpIn F n P (noGoto Q) a w):(Code.scope c).wpIn F n P Q a w:=by
 intro b k cs m o p;have f:(lone (b.atR a (.code (.scope c)::k)) cs w).fenced P F:=fenced_calm o p rfl;obtain ⟨e,i,j,g,d⟩:=h b (.inScope c::k) cs m o p;cases e with
 | normal=>exact ⟨.normal,i,j,g,.head f qfz (StepsIn.trans d (.one (fenced_calm o p rfl) qz1))⟩
 | exit id=>
  refine ⟨.exit id,i,j,g,λs q=>.head f qfz (d.1 s (by simp [exitTo,q])),λr q=>?_⟩;obtain ⟨t,u,v⟩:=d.2 r (by simp [exitTo,q]);exact ⟨t,u,.head f qfz v⟩
 | goto l=>exact g.elim
 | ret=>exact ⟨.ret,i,j,g,.of_steps (.one f qfz) d⟩
 | panic x=>exact ⟨.panic x,i,j,g,.of_steps (.one f qfz) d⟩
 | outgrown=>exact ⟨.outgrown,i,j,g,.of_steps (b:=b) (k:=k) (cs:=cs) (e:=.outgrown) (.one f qfz) d⟩
theorem qan.append {ds:List Dfr}:∀ {l:List Deferred} {a:List Dfr} {b:List Deferred},qan G w ds l->qan G w a b->qan G w (ds++a) (l++b):=by
 induction ds with
 | nil=>intro l a b h c;simp only [qan] at h;subst h;exact c
 | cons d ds i=>
  intro l a b h c;cases d with
  | mark nm=>
   simp only [qan] at h;obtain ⟨x,e,rfl,f,g⟩:=h;simp only [List.cons_append,qan];exact ⟨x,e++b,rfl,i f c,g⟩
  | call d=>
   simp only [qan] at h;obtain ⟨x,e,rfl,f,g⟩:=h;simp only [List.cons_append,qan];exact ⟨x,e++b,rfl,i f c,g⟩
theorem q3e {b:Nat} {L:Loop} (h:w.heap[b]? = some (.loop L)):w.shape? b=none:=by simp only [World.shape?,h]
theorem run_getObj_loop {b:Nat} {L:Loop} (h:w.heap[b]? = some (.loop L)):(getObj b).run P w=.ok (.loop L) w:=by simp [getObj,Sem.run,h]
theorem run_setObj_loop {b:Nat} {L:Loop} {o:Obj} (h:w.heap[b]? = some (.loop L)):(setObj b o).run P w=.ok () (qmw w b o):=by simp [setObj,Sem.run,h,qmw]
theorem run_getLoop {b:Nat} {L:Loop} (h:w.heap[b]? = some (.loop L)):(Instr.getLoop b).run P w=.ok L w:=by simp [Instr.getLoop,run_getObj_loop h]
theorem Sim.q38 (j:Sim H G w) {l:Nat} {st e:LoopState} {c a:Option Code} {lt:Tree V} {ln:Nat} {r:List Tmp} {s t:Code} {u:Nat} (v:H.get l=some (.loop st c lt ln r s t u)) {b sh n:Nat} (h:G l 0=some (b,sh,n))
  {H':Heap} (hu:H.upd l (.loop e a lt ln r s t u)=some H'):∃ L,w.heap[b]? = some (.loop L)/\L.state=st/\L.pending=c/\Step H G w H' G (qmw w b (.loop {L with state:=e,pending:=a})):=by
 obtain ⟨x,rfl⟩:=qgn hu;have f:=j.obj l _ (j.lt _ _ _ _ _ h).2 v;obtain ⟨_,L,i,y,z,A,B,C,D,k,E,F,I,m,J,o,p⟩:=f 0 b sh n h;refine ⟨L,i,y,z,j.setObj _ v h x _ i (q3e i) (λg K M q N d=>?_)⟩;obtain ⟨O,P,Q,_⟩:=f K M q N d;subst O;rw [h] at d;cases d;exact ⟨rfl,_,qi5 i,rfl,rfl,A,B,C,D,k,E,F.ext g,I,m,J,o,p⟩
theorem qzo (g:Sim H G w) {l b sh n:Nat} (i:G l 0=some (b,sh,n)) {ex:Ex} {H':Heap} (h:qab H l=some (ex,H')) :
  ∃ a w',(Instr.endLoop b).run P w=.ok a w'/\Step H G w H' G w'/\qbo a=some ex:=by
 unfold qab at h;split at h
 .rename_i st c lt ln r s t u j;split at h
  .cases h
  .rename_i d;simp only [zI,zM,zP] at h;obtain ⟨H1,k,ex',m,rfl,rfl⟩:=h;obtain ⟨L,f,o,p,e⟩:=g.q38 j i k;subst p;refine ⟨L.pending,_,?_,e,m⟩;have q:¬ (L.state == .busy)=true:=by
    rw [o];cases st<;>first
     | (exact (d rfl).elim)
     | decide
   simp only [Instr.endLoop,Sem.run_bind,run_getLoop f,Result.andThen_ok,q,Bool.false_eq_true,if_false,run_setObj_loop f,Sem.run_pure]
 .cases h
theorem q49 (f:Sim H G w) {round:Option Nat} (i:qky G round F.round) {mark:List Dfr} {H1:Heap} {r:Nat} (h:qj2 round H=some (mark,H1,r)) :
  ∃ k w1 a j e m,Step H G w H1 k w1/\qan k w1 mark a/\k r 0=some (j,e,m)/\
   ∀ fn tmps ps assign body,(Instr.enterLoop fn tmps ps assign body F.round).run P w=.ok (w1.heap.size,a) (push w1 (.loop {state:=.ready,pending:=none,fn,tmps,params:=ps,assign,body,defers:=j})):=by
 unfold qj2 at h;split at h
 .cases h;have st:=f.new .dfr (.deferred (some [])) 0 (λ_ g b sh n c=>by
   simp only [qgp] at c;by_cases o:g=0
   .rw [zT ⟨trivial,o⟩] at c;cases c;exact ⟨o,qb4 _ _⟩
   .rw [zF (λx=>o x.2),f.fresh] at c;cases c)
  refine ⟨_,_,[{target:=.collected w.heap.size,args:=#[]}],w.heap.size,0,0,st,?_,qde _ _ _ _,λfn tmps ps assign body=>?_⟩
  .simp only [qan];exact ⟨_,_,rfl,rfl,w.heap.size,0,0,qde _ _ _ _,rfl⟩
  .rw [i];rfl
 .rename_i l;split at h
  .rename_i d s;cases h;obtain ⟨b,sh,n,c,t⟩:=i;obtain ⟨_,L,u,y,z,A,B,C,D,v,E,I,j,e,m,p,q⟩:=f.obj l _ (f.lt _ _ _ _ _ c).2 s 0 b sh n c;refine ⟨G,w,[],j,e,m,Step.refl f,by simp only [qan],p,λfn tmps ps assign body=>?_⟩;rw [t];simp only [Instr.enterLoop,Sem.run_bind,run_getLoop u,run_newObj,Sem.run_pure,Result.andThen_ok,q];rfl
  .cases h
theorem Sim.zi0 (j:Sim H G w) {fr:Fr} {a:Act} (e:SimFr G w fr a) {ps:Array Tmp} {assign body:Code} (m:codeOk assign=true) (o:codeOk body=true) {k h d l:Nat} (p:G k 0=some (h,d,l)) (fn:FuncId) :
  Step H G w (H.new (.loop .ready none fr.tmps fr.n ps.toList assign body k)) (qgp G H.next 0 (w.heap.size,0,0)) (push w (.loop {state:=.ready,pending:=none,fn,tmps:=a.tmps,params:=ps,assign,body,defers:=h})):=by
 refine j.new _ _ 0 (λc g b sh n f=>?_);simp only [qgp] at f;by_cases i:g=0
 .rw [zT ⟨trivial,i⟩] at f;cases f;exact ⟨i,_,qb4 _ _,rfl,rfl,rfl,rfl,rfl,m,o,e.n,e.tmps.ext c,h,d,l,c.sub _ _ _ p,rfl⟩
 .rw [zF (λx=>i x.2),j.fresh] at f;cases f
theorem qq1 {f:Nat} (h:qgc (qw P sp) f=true):∃ fn c,P.funcs[f]? = some fn/\(fn.name == "runtime.NumGoroutine")=false/\fn.body=some c:=by
 simp only [qgc,qw,funcOf] at h;cases a:P.funcs[f]? with
 | none=>simp_all
 | some fn=>grind
theorem qau {f:FuncId} {fn:Func} {c:Code} (b:P.funcs[f]? = some fn) (a:(fn.name == "runtime.NumGoroutine")=false) (d:fn.body=some c) (args:Array Value) (w:World) :
  (callFunc f args).run P w=.ok (.enter f args) w:=by
 have e:fn.name≠ "runtime.NumGoroutine" := by simpa using a
 simp [callFunc,b,e,d]
theorem q2h {a:V} {l:List V} {g:FuncId} {args:List V} (h:qdr a l=some (.call (.func g) args)):∃ first captured,a=.func (.func g) first captured/\args=first++l++captured:=by
 unfold qdr at h;split at h
 .grind
 .simp at h
 .cases h
theorem qyr {t u:Heap} {h:qj} {q:World} (st:Step H G w t h q) {l b sh m:Nat} (v:h l 0=some (b,sh,m)) {fr':Fr} {i:Act} (r:SimFr h q fr' i) {ex:Ex} (j:qab t l=some (ex,u))
  {Q:Exit->Act->World->Prop} (s:∀ e i w',qqo H G w (ex,fr',u) e i w'->Q e i w') :
  ∃ a k,(Instr.endLoop b).run P q=.ok a k/\(match a with
    | none=>Q .normal i k
    | some c=>c.wpIn F n P Q i k):=by
 obtain ⟨a,k,o,p,f⟩:=qzo (P:=P) st.sim v j;refine ⟨a,k,o,?_⟩;have g:=st.trans p;have d:=r.ext p.ext;cases a with
 | none=>
  simp only [qbo,zS] at f;subst f;exact s _ _ _ ⟨h,g,d,rfl⟩
 | some c=>
  cases c with
  | ret=>
   simp only [qbo,zS] at f;subst f;exact wpIn_ret (s _ _ _ ⟨h,g,d,rfl⟩)
  | exit id=>
   simp only [qbo,zS] at f;subst f;exact wpIn_exit (s _ _ _ ⟨h,g,d,rfl⟩)
  | _=>simp [qbo] at f
theorem qwc (hc:qdx P call) {V:FuncId} {fuel:Nat} {f:Operand} {params:Array Tmp} {assign body:Code} (E:codeOk (.rangeFunc f params assign body)=true) {round:Option Nat} {x:Ex×Fr×Heap} {Q:Exit->Act->World->Prop}
  (hF:qeu F) (W:qky G round F.round) (hs:Sim H G w) (e:SimFr G w fr a) (h:qh (qw P sp) call V round fuel (.rangeFunc f params assign body) fr H=some x) (hQ:∀ e X w',qqo H G w x e X w'->Q e X w') :
  (Code.rangeFunc f params assign body).wpIn F n P Q a w:=by
 simp only [qh,zI] at h;obtain ⟨⟨I,H1,dn⟩,i,h⟩:=h;split at h
 .rename_i g args j;simp only [zI] at j;obtain ⟨fv,Y,J⟩:=j;obtain ⟨first,captured,rfl,rfl⟩:=q2h J;rw [cond_eq_ite] at h;split at h
  .rename_i u;obtain ⟨gn,gc,Z,a0,a1⟩:=qq1 u;obtain ⟨G1,w1,k,db,a5,dm,z,A,a2,q⟩:=q49 (P:=P) hs W i;have K:codeOk assign=true/\codeOk body=true:=by
    simp only [codeOk,zA] at E;exact E
   have L:=qq hs e Y;obtain ⟨a6,o,l,h3,h4,h5,h6⟩:=L;subst h4;refine wpIn_rangeFunc λfn _=>?_;have st2:=z.sim.zi0 (e.ext z.ext) (ps:=params) K.1 K.2 a2 fn;have m:=q fn a.tmps params assign body;have b:qgp G1 H1.next 0 (w1.heap.size,0,0) H1.next 0=some (w1.heap.size,0,0):=qde _ _ _ _
   generalize qgp G1 H1.next 0 (w1.heap.size,0,0)=G2 at st2 b
   generalize push w1 (.loop {state:=.ready,pending:=none,fn,tmps:=a.tmps,params,assign,body,defers:=db})=w2 at st2 m;generalize H1.new (.loop .ready none fr.tmps fr.n params.toList assign body dn)=H2 at st2 h;generalize w1.heap.size=D at m b;have d:=z.trans st2;obtain ⟨y,hy⟩:∃ y:Value,y=.func (.yield D) #[] #[]:=⟨_,rfl⟩;have s:Rel G2 w2 (.func (.yield H1.next) [] []) y:=by
    rw [hy];exact ⟨_,_,_,rfl,⟨_,_,_,b,rfl⟩,qn.nil,qn.nil⟩
   have B:qn G2 w2 (first++[.func (.yield H1.next) [] []]++captured) ((o++#[y]).toList++l.toList):=by
    rw [Array.toList_append];exact ((h5.ext d.ext).append (qn.cons s qn.nil)).append (h6.ext d.ext)
   have M:(invoke (.fn (.func g) l) (o++#[y])).run P w2=.ok (.enter g (o++#[y]++l)) w2:=by
    have T:(invoke (.fn (.func g) l) (o++#[y])).run P w2=(callFunc g (o++#[y]++l)).run P w2:=rfl;rw [T,qau Z a0 a1]
   have N:(resolve a.eval (rangeCall f D) 0).run P w2=.ok (⟨.fn (.func g) l,o++#[y]⟩:Deferred) w2:=by
    have hm:(rangeCall f D).args.map a.eval = #[y]:=by simp [hy,Act.eval]
    have T:resolve a.eval (rangeCall f D) 0=Deferred.ofValue (a.eval f) ((rangeCall f D).args.map a.eval):=rfl;rw [hm] at T;rw [T,h3];simp [Deferred.ofValue]
   refine ⟨D,k,w2,⟨.fn (.func g) l,o++#[y]⟩,w2,g,o++#[y]++l,w2,m,N,λf' _=>hF.1 f',M,by rw [hF.2.1];simp,?_⟩;have O:∀ p t C,Step H2 G2 w2 p t C->SimFr t C {fr with defers:=I++fr.defers} {a with defers:=k++a.defers}:=by
    intro p t C c;have ef:=(e.ext d.ext).ext c.ext;exact ⟨ef.tmps,ef.n,((A.ext st2.ext).ext c.ext).append ef.dfr⟩
   have fin:∀ r p,call (.func g) (first++[.func (.yield H1.next) [] []]++captured) H2=some (r,p)->CallsIn F (n-1) P g (o++#[y]++l) w2 λe w'=>∃ G',Step H2 G2 w2 p G' w'/\qio G' w' r e:=by
    intro r p R;rcases hc _ _ _ _ _ R _ _ (.fn (.func g) l) (o++#[y]) st2.sim ⟨l,rfl,B⟩ with ⟨y',w',G',v',r1,_⟩ | ⟨f',U,r1,r2⟩ | ⟨l',f',t',X,b',r1,_⟩
    .simp_all
    .simp_all
    .simp_all
   split at h
   .rename_i v p R;simp only [zM] at h;obtain ⟨⟨ex,H4⟩,S,rfl⟩:=h;refine (fin _ _ R).mono λen C i=>?_;obtain ⟨t,c,se⟩:=i;obtain ⟨y',rfl,_⟩:=se;exact qyr (d.trans c) (c.ext.sub _ _ _ b) (O p t C c) S hQ
   .rename_i ch p R;cases h;refine (fin _ _ R).mono λen C i=>?_;obtain ⟨t,c,se⟩:=i;obtain ⟨a3,rfl,a4⟩:=se;exact hQ _ _ _ ⟨t,d.trans c,O p t C c,a3,rfl,a4⟩
   .cases h
  .cases h
 .cases h
theorem jl (A:qdx P call) (C:qts P sp call) (fn:FuncId) (fuel:Nat):∀ (c:Code) (_:codeOk c=true) (round:Option Nat) (H:Heap) (G:qj) (w:World) (fr:Fr) (a:Act) (x:Ex×Fr×Heap) (F:Fence) (n:Nat) (Q:Exit->Act->World->Prop),
  qeu F->qky G round F.round->Sim H G w->SimFr G w fr a->qh (qw P sp) call fn round fuel c fr H=some x->(∀ e a' w',qqo H G w x e a' w'->Q e a' w')->c.wpIn F n P Q a w
 | .skip,b,round,H,G,w,fr,a,x,F,n,Q,o,g,j,e,h,k=>by
  simp only [qh,zS] at h;subst h;exact wpIn_skip (k _ _ _ ⟨G,Step.refl j,e,rfl⟩)
 | .label l,b,round,H,G,w,fr,a,x,F,n,Q,o,g,j,e,h,k=>by
  simp only [qh,zS] at h;subst h;exact wpIn_label (k _ _ _ ⟨G,Step.refl j,e,rfl⟩)
 | .exit id,b,round,H,G,w,fr,a,x,F,n,Q,o,g,j,e,h,k=>by
  simp only [qh,zS] at h;subst h;exact wpIn_exit (k _ _ _ ⟨G,Step.refl j,e,rfl⟩)
 | .goto l,b,round,H,G,w,fr,a,x,F,n,Q,o,g,j,e,h,k=>by
  simp only [qh,zS] at h;subst h;exact wpIn_goto (k _ _ _ ⟨G,Step.refl j,e,rfl⟩)
 | .ret,b,round,H,G,w,fr,a,x,F,n,Q,o,g,j,e,h,k=>by
  simp only [qh,zS] at h;subst h;exact wpIn_ret (k _ _ _ ⟨G,Step.refl j,e,rfl⟩)
 | .seq c d,b,round,H,G,w,fr,a,x,F,n,Q,o,g,j,e,h,k=>by
  simp only [qh] at h;split at h
  .rename_i fr' H' K;refine wpIn_seq (jl A C fn fuel c (Bool.and_eq_true_iff.1 b).1 round H G w fr a _ F n _ o g j e K (λE t w1 p=>?_));obtain ⟨I,B,J,q⟩:=p;cases q;exact jl A C fn fuel d (Bool.and_eq_true_iff.1 b).2 round H' I w1 fr' t x F n Q o (g.sub B.ext.sub) B.sim J h (λV S w2 p=>k _ _ _ (p.trans B))
  .rename_i y u;refine wpIn_seq (jl A C fn fuel c (Bool.and_eq_true_iff.1 b).1 round H G w fr a _ F n _ o g j e h (λE t w1 p=>?_));obtain ⟨ex,fr',H'⟩:=x;cases ex with
   | normal=>exact (u _ _ h).elim
   | _=>
    have D:=k E t w1 p;obtain ⟨I,B,J,q⟩:=p
    first
     | (cases q;exact D)
     | (obtain ⟨L,rfl,_⟩:=q;exact D)
 | .cond c x y,b,round,H,G,w,fr,a,z,F,n,Q,o,g,j,e,h,k=>by
  simp only [qh] at h;split at h
  .rename_i W;have O:=qq j e W;simp only [Rel] at O;exact wpIn_cond O (jl A C fn fuel x (Bool.and_eq_true_iff.1 b).1 round H G w fr a z F n Q o g j e h k)
  .rename_i W;have O:=qq j e W;simp only [Rel] at O;exact wpIn_cond O (jl A C fn fuel y (Bool.and_eq_true_iff.1 b).2 round H G w fr a z F n Q o g j e h k)
  .cases h
 | .block id c,b,round,H,G,w,fr,a,x,F,n,Q,o,g,j,e,h,k=>by
  simp only [qh] at h;split at h
  .rename_i X fr' H' K;refine wpIn_block (jl A C fn fuel c b round H G w fr a _ F n _ o g j e K (λE t w1 p=>?_));obtain ⟨I,B,J,q⟩:=p;cases q;simp only [Exit.inBlock];rw [cond_eq_ite] at h;simp only [Nat.beq_eq] at h;split at h
   .rename_i M;cases h;rw [zT M];exact k _ _ _ ⟨I,B,J,rfl⟩
   .rename_i M;cases h;rw [zF M];exact k _ _ _ ⟨I,B,J,rfl⟩
  .rename_i y u;refine wpIn_block (jl A C fn fuel c b round H G w fr a _ F n _ o g j e h (λE t w1 p=>?_));obtain ⟨ex,fr',H'⟩:=x;have D:=k E t w1 p;obtain ⟨I,B,J,q⟩:=p;cases ex with
   | exit X=>exact (u _ _ _ h).elim
   | panic ch=>obtain ⟨L,rfl,_⟩:=q;exact D
   | _=>cases q;exact D
 | .scope c,b,round,H,G,w,fr,a,x,F,n,Q,o,g,j,e,h,k=>by
  simp only [qh] at h;split at h
  .cases h
  .rename_i y u;refine q9f (jl A C fn fuel c b round H G w fr a _ F n _ o g j e h (λE t w1 p=>?_));obtain ⟨ex,fr',H'⟩:=x;have D:=k E t w1 p;obtain ⟨I,B,J,q⟩:=p;cases ex with
   | goto l=>exact (u _ _ _ h).elim
   | panic ch=>obtain ⟨L,rfl,_⟩:=q;exact D
   | _=>cases q;exact D
 | .loop c,b,round,H,G,w,fr,a,x,F,n,Q,o,g,j,e,h,k=>by
  simp only [qh] at h;refine wpIn_loop_rounds fuel ?_;have Y:∀ (m:Nat) (H1:Heap) (N:qj) (w1:World) (v:Fr) (t:Act) (Z:Ex),Step H G w H1 N w1->SimFr N w1 v t->
    iter (λ(s:Ex×Fr×Heap)=>match qh (qw P sp) call fn round fuel c s.2.1 s.2.2 with
     | some (.normal,fr',H')=>some (true,.normal,fr',H')
     | some r=>some (false,r)
     | none=>none) m (Z,v,H1)=some x->Code.roundsIn F n P c Q m t w1:=by
   intro m
   induction m with
   | zero=>intro H1 N w1 v t Z _ _ hi;simp [iter] at hi
   | succ m ih=>
    intro H1 N w1 v t Z st E hi;simp only [iter] at hi;split at hi
    .rename_i s' i;split at i
     .rename_i fr' H' K;cases i;refine jl A C fn fuel c b round H1 N w1 v t _ F n _ o (g.sub st.ext.sub) st.sim E K (λV S w2 p=>?_);obtain ⟨I,B,J,q⟩:=p;cases q;exact ih H' I w2 fr' S _ (st.trans B) J hi
     .cases i
     .cases i
    .rename_i s' i;cases hi;split at i
     .cases i
     .rename_i r u K;cases i;refine jl A C fn fuel c b round H1 N w1 v t _ F n _ o (g.sub st.ext.sub) st.sim E K (λV S w2 p=>?_);have D:=k V S w2 (p.trans st);obtain ⟨ex,fr',H'⟩:=x;obtain ⟨I,B,J,q⟩:=p;cases ex with
      | normal=>simp_all
      | panic ch=>obtain ⟨L,rfl,_⟩:=q;exact D
      | _=>cases q;exact D
     .cases i
    .cases hi
  exact Y fuel H G w fr a .normal (Step.refl j) e h
 | .region id ops R,b,round,H,G,w,fr,a,x,F,n,Q,o,g,j,e,h,k=>by
  simp only [qh,cond_eq_ite] at h;cases R with
  | false=>
   refine wpIn_region_list (qig A o (λhr=>?_) ops.toList H G w fr a x Q j e h k);cases round with
   | none=>exact g
   | some l=>cases hr
  | true=>
   simp only [if_true,zM] at h;obtain ⟨⟨fr',H'⟩,K,rfl⟩:=h;exact C ops fr H fr' H' K (by simpa [codeOk] using b) G w a F n id Q o j e k
 | .rangeFunc f T U body,b,round,H,G,w,fr,a,x,F,n,Q,o,g,j,e,h,k=>qwc A b o g j e h k
 | .refuse s,b,round,H,G,w,fr,a,x,F,n,Q,o,g,j,e,h,k=>by
  simp [qh] at h
end
end Go.E2
/- E2: OPERATIONS IN ANY ORDER. First the plain law of lists: who is apart from whom may be taken out; then the operations of a region that draws its order as such a list. -/
namespace Go.E2
open Go
theorem put_eq (fr:Fr) (dst:Option Tmp) (v:V):fr.put dst v=match dst with
  | some d=>bif Nat.blt d fr.n then {fr with tmps:=fr.tmps.set d v} else fr
  | none=>fr:=by
 cases dst<;>rfl
theorem q1k (fr:Fr) (dst:Option Tmp) (v:V):(fr.put dst v).n=fr.n:=by
 rw [put_eq];cases dst with
 | none=>rfl
 | some d=>grind
theorem put_defers (fr:Fr) (dst:Option Tmp) (v:V):(fr.put dst v).defers=fr.defers:=by
 rw [put_eq];cases dst with
 | none=>rfl
 | some d=>grind
structure RW (L X:Type) where
 rd:L->Option (X->Prop)
 wr:L->Option X
section
variable {L X:Type}
def RW.app (o:RW L X) (s:L->X):L->X:=λl=>(o.wr l).getD (s l)
def qyy:List (RW L X)->(L->X)->L->X
 | [],s=>s
 | o::R,s=>qyy R (o.app s)
def RW.qpx (o:RW L X) (s:L->X):Prop:=∀ l p,o.rd l=some p->p (s l)
def qth:List (RW L X)->(L->X)->Prop
 | [],_=>True
 | o::R,s=>o.qpx s/\qth R (o.app s)
def RW.dis (p q:RW L X):Prop:=∀ l,(p.wr l≠none->q.rd l=none/\q.wr l=none)/\(q.wr l≠none->p.rd l=none/\p.wr l=none)
theorem RW.qrn {o:RW L X} {s:L->X} {l:L} (h:o.wr l=none):o.app s l=s l:=by simp [RW.app,h]
theorem RW.dis.comm {p q:RW L X} (h:p.dis q) (s:L->X):p.app (q.app s)=q.app (p.app s):=by
 funext l;cases a:p.wr l with
 | none=>rw [RW.qrn a];simp only [RW.app,a,Option.getD_none]
 | some x=>
  have b:=((h l).1 (by rw [a];simp)).2;rw [RW.qrn (o:=q) b];simp only [RW.app,a,b,Option.getD_some]
theorem RW.dis.qpx {p q:RW L X} (h:p.dis q) {s:L->X}:p.qpx (q.app s)↔p.qpx s:=by
 constructor
 .intro c l d a;have b:q.wr l=none:=by
   cases b:q.wr l with
   | none=>rfl
   | some x=>have:=((h l).2 (by rw [b];simp)).1;rw [this] at a;cases a
  have:=c l d a
  rwa [RW.qrn b] at this
 .intro c l d a;have b:q.wr l=none:=by
   cases b:q.wr l with
   | none=>rfl
   | some x=>have:=((h l).2 (by rw [b];simp)).1;rw [this] at a;cases a
  rw [RW.qrn b];exact c l d a
theorem RW.dis.symm {p q:RW L X} (h:p.dis q):q.dis p:=λl=>⟨(h l).2,(h l).1⟩
theorem zgr:∀ (A:List (RW L X)) (i:RW L X) (B:List (RW L X)) (s:L->X),(∀ a ∈ A,a.dis i)->qth (A++i::B) s->
  i.qpx s/\qth (A++B) (i.app s)/\qyy (A++B) (i.app s)=qyy (A++i::B) s
 | [],i,B,s,_,h=>⟨h.1,h.2,rfl⟩
 | a::A,i,B,s,c,h=>by
  obtain ⟨d,e⟩:=h;obtain ⟨f,g,j⟩:=zgr A i B (a.app s) (λx k=>c x (zG _ k)) e;have b:=c a zC;refine ⟨(b.symm.qpx).1 f,⟨(b.qpx).2 d,?_⟩,?_⟩
  .rw [b.comm];exact g
  .simp only [List.cons_append,qyy];rw [b.comm];exact j
end
abbrev Loc:=Nat ⊕ Nat
abbrev Val:=Option V×Option O×Nat
structure It where
 i:Nat
 o:Oper
 f:Fr
 K:Heap
 v:V
 K':Heap
 fp:FP
 dels:List Nat
def okN (next:Nat) (dels:List Nat) (n:Nat):Bool:=Nat.blt n next&&!dels.any λm=>Nat.beq n m
def It.dom (t:It) (nm:Nat):Bool:=
 match t.fp with
 | .none=>false
 | .reads l | .writes l=>(l.any λm=>Nat.beq nm m)&&okN t.K.next t.dels nm
 | .call | .lone=>okN t.K.next t.dels nm
def It.qad (t:It):Bool:=
 match t.fp with
 | .writes _ | .lone=>true
 | _=>false
def It.rw (all:Array Oper) (t:It):RW Loc Val where
 rd:=λ
  | .inl x=>if x ∈ t.o.looksAt all then some λy=>t.f.tmps.get x=y.1/\y.2.2<=t.K.next else none
  | .inr nm=>if t.dom nm=true then some λy=>t.K.get nm=y.2.1/\y.2.2<=t.K.next else none
 wr:=λ
  | .inl x=>if t.o.dst=some x/\x<t.f.n then some (some t.v,none,t.K'.next) else none
  | .inr nm=>if (t.K.next<=nm/\nm<t.K'.next)∨(t.qad=true/\t.dom nm=true) then some (none,t.K'.get nm,t.K'.next) else none
structure ItOk (E:Env) (call:Call) (all:Array Oper) (fr:Fr) (H:Heap) (t:It):Prop where
 run:j8 E call all t.o t.f t.K=some (.ret t.v,t.K')
 op:all[t.i]? = some t.o
 le:t.K.next<=t.K'.next
 start:H.next<=t.K.next
 ro:H.ro<=t.K.ro
 roN:t.K.ro<=t.K.next
 roM:t.qad=false->t.K.ro=t.K.next
 qp:t.K.qp=H.qp
 dom:∀ nm,nm<t.K.next->t.K.get nm≠none->t.dom nm=true
 looks:∀ x,t.f.tmps.get x≠none->x ∈ t.o.looksAt all
 n:t.f.n=fr.n
 dfr:t.f.defers=fr.defers
 dels:∀ nm ∈ t.dels,nm<t.K.next
def Rep (s:Loc->Val) (fr:Fr) (H:Heap):Prop:=
 (∀ x,(s (.inl x)).1=fr.tmps.get x/\(s (.inl x)).2.2<=H.next)/\∀ nm,nm<H.next->(s (.inr nm)).2.1=H.get nm/\(s (.inr nm)).2.2<=H.next
def ztv (b:Array Nat) (p q:It):Prop:=(b.getD q.i 0).testBit p.i=true
theorem q3l {next:Nat} {dels:List Nat} {n:Nat} (h:okN next dels n=true):n<next:=by
 simp only [okN,zA,Nat.blt_eq] at h;exact h.1
theorem qmc {next:Nat} {dels:List Nat} {n:Nat} (h:okN next dels n=true):n ∉ dels:=by
 simp only [okN,zA,Bool.not_eq_true',List.any_eq_false,Nat.beq_eq] at h;intro a;exact h.2 n a rfl
theorem qq8 {next:Nat} {dels:List Nat} {n:Nat} (h:n<next) (a:n ∉ dels):okN next dels n=true:=by
 simp only [okN,zA,Bool.not_eq_true',List.any_eq_false,Nat.beq_eq,Nat.blt_eq];refine ⟨h,λm b c=>a (c ▸ b)⟩
theorem It.qqw {t:It} {nm:Nat} (h:t.dom nm=true):nm<t.K.next/\nm ∉ t.dels:=by
 unfold It.dom at h;split at h
 .cases h
 .have:=(Bool.and_eq_true_iff.1 h).2;exact ⟨q3l this,qmc this⟩
 .have:=(Bool.and_eq_true_iff.1 h).2;exact ⟨q3l this,qmc this⟩
 .exact ⟨q3l h,qmc h⟩
 .exact ⟨q3l h,qmc h⟩
def q7h (d:Done) (t:It):Prop:=d.i=t.i/\d.fp=t.fp/\d.lo=t.K.next/\d.hi=t.K'.next/\d.dels=t.dels
theorem q0c {p q:It} {d:Done} (s:q7h d p) (h:qao d q.dels q.fp=false) {nm:Nat} (b:p.dom nm=true) (c:q.dom nm=true):p.qad=false/\q.qad=false:=by
 obtain ⟨_,t,u,_,v⟩:=s;have f:∀ (w l:List Nat),(w.any λn=>l.any λm=>Nat.beq n m)=false->(w.any λm=>Nat.beq nm m)=true->(l.any λm=>Nat.beq nm m)=true->False:=by
  intro w l g i e;obtain ⟨m,j,a⟩:=List.any_eq_true.1 i;rw [Nat.beq_eq] at a;subst a;rw [List.any_eq_false] at g;exact g nm j e
 have out:∀ (l:List Nat),(l.any λn=>Nat.blt n p.K.next&&!p.dels.any λm=>Nat.beq n m)=false->(l.any λm=>Nat.beq nm m)=true->okN p.K.next p.dels nm=true->False:=by
  intro l k i e;obtain ⟨m,j,a⟩:=List.any_eq_true.1 i;rw [Nat.beq_eq] at a;subst a;rw [List.any_eq_false] at k;exact k nm j e
 have ins:∀ (l:List Nat),(l.any λn=>!q.dels.any λm=>Nat.beq n m)=false->(l.any λm=>Nat.beq nm m)=true->okN q.K.next q.dels nm=true->False:=by
  intro l k i e;obtain ⟨m,j,a⟩:=List.any_eq_true.1 i;rw [Nat.beq_eq] at a;subst a;rw [List.any_eq_false] at k;simp only [okN,zA] at e;exact k nm j e.2
 unfold It.dom at b c;unfold It.qad;unfold qao at h;rw [t,u,v] at h;cases o:p.fp<;>cases r:q.fp<;>simp only [o,r,zA] at h b c ⊢<;>first
  | exact ⟨rfl,rfl⟩
  | (cases h;done)
  | (cases b;done)
  | (cases c;done)
  | exact (f _ _ h b.1 c.1).elim
  | exact (f _ _ h c.1 b.1).elim
  | exact (out _ h c.1 b).elim
  | exact (ins _ h b.1 c).elim
  | trivial
theorem zno {all:Array Oper} {p q:It} {d:Done} (hd:q7h d p) (hap:p.o.apart all q.o=true) (hcl:qao d q.dels q.fp=false) (hle:p.K'.next<=q.K.next) (hpl:p.K.next<=p.K'.next)
  (hdel:∀ nm,p.K.next<=nm->nm<p.K'.next->nm ∈ q.dels):(p.rw all).dis (q.rw all):=by
 obtain ⟨a1,a2,a3⟩:=Oper.apart_spec hap;intro l;cases l with
 | inl x=>
  simp only [It.rw];refine ⟨λh=>?_,λh=>?_⟩
  .simp_all
  .grind
 | inr nm=>
  simp only [It.rw];refine ⟨λh=>?_,λh=>?_⟩
  .have hw:(p.K.next<=nm/\nm<p.K'.next)∨(p.qad=true/\p.dom nm=true):=by
    by_cases hx:(p.K.next<=nm/\nm<p.K'.next)∨(p.qad=true/\p.dom nm=true)
    .exact hx
    .simp_all
   have hnd:¬ q.dom nm=true:=by
    intro hq;rcases hw with hw | hw
    .exact (It.qqw hq).2 (hdel nm hw.1 hw.2)
    .have:=(q0c hd hcl hw.2 hq).1;rw [hw.1] at this;cases this
   have hlt:nm<q.K.next:=by
    rcases hw with hw | hw
    .omega
    .have:=(It.qqw hw.2).1;omega
   rw [if_neg hnd, if_neg (by intro hx; rcases hx with hx | hx; · omega
                              .exact hnd hx.2)]
   exact ⟨rfl,rfl⟩
  .have hw:(q.K.next<=nm/\nm<q.K'.next)∨(q.qad=true/\q.dom nm=true):=by
    by_cases hx:(q.K.next<=nm/\nm<q.K'.next)∨(q.qad=true/\q.dom nm=true)
    .exact hx
    .simp_all
   have hnd:¬ p.dom nm=true:=by
    intro hp;rcases hw with hw | hw
    .have:=(It.qqw hp).1;omega
    .have:=(q0c hd hcl hp hw.2).2;rw [hw.1] at this;cases this
   have hnn:¬ (p.K.next<=nm/\nm<p.K'.next):=by
    intro hp;rcases hw with hw | hw
    .omega
    .exact (It.qqw hw.2).2 (hdel nm hp.1 hp.2)
   rw [if_neg hnd, if_neg (by intro hx; rcases hx with hx | hx; · exact hnn hx
                              .exact hnd hx.2)]
   exact ⟨rfl,rfl⟩
def Rl (b:Array Nat) (all:Array Oper) (p q:It):Prop:=p.i<q.i/\p.K'.next<=q.K.next/\(ztv b p q∨(p.rw all).dis (q.rw all))
theorem qav (H:Heap) (fp:FP) (dels:List Nat):(zw H fp dels).next=H.next:=by unfold zw;split<;>rfl
theorem q9c (H:Heap) (fp:FP) (dels:List Nat):(zw H fp dels).qp=H.qp:=by unfold zw;split<;>rfl
theorem qo8 {l:List Nat} {n:Nat}:(l.any λm=>Nat.beq n m)=true↔n ∈ l:=by
 rw [List.any_eq_true];constructor
 .simp_all
 .simp_all
theorem q1y (H:Heap) (fp:FP) (dels:List Nat) (i:Nat) (o:Oper) (f:Fr) (v:V) (b:Heap) (nm:Nat) (a:nm<H.next) :
  (zw H fp dels).get nm=if (It.mk i o f (zw H fp dels) v b fp dels).dom nm=true then H.get nm else none:=by
 unfold It.dom;simp only [qav];cases fp with
 | none=>rfl
 | reads l=>
  simp only [zw,Heap.get,jz,Tree.get];by_cases h:nm ∈ l/\okN H.next dels nm=true
  .rw [zT (by rw [List.mem_filter];exact h),zT (by rw [zA];exact ⟨qo8.2 h.1,h.2⟩)]
  .rw [zF (by rw [List.mem_filter];exact h),zF (by rw [zA];exact λq=>h ⟨qo8.1 q.1,q.2⟩)]
 | writes l=>
  simp only [zw,Heap.get,jz,Tree.get];by_cases h:nm ∈ l/\okN H.next dels nm=true
  .rw [zT (by rw [List.mem_filter];exact h),zT (by rw [zA];exact ⟨qo8.2 h.1,h.2⟩)]
  .rw [zF (by rw [List.mem_filter];exact h),zF (by rw [zA];exact λq=>h ⟨qo8.1 q.1,q.2⟩)]
 | call=>
  simp only [zw,Heap.get,jz,Tree.get];by_cases h:nm ∈ dels
  .rw [zT h,zF (λq=>qmc q h)]
  .rw [zF h,zT (qq8 a h)]
 | lone=>
  simp only [zw,Heap.get,jz,Tree.get];by_cases h:nm ∈ dels
  .rw [zT h,zF (λq=>qmc q h)]
  .rw [zF h,zT (qq8 a h)]
theorem mem_range {a b n:Nat}:n ∈ List.range' a (b-a)↔a<=n/\n<b:=by
 rw [List.mem_range'_1];omega
theorem zce (H K':Heap) (fp:FP) (dels:List Nat) (i:Nat) (o:Oper) (f:Fr) (v:V) (nm:Nat) (hn:nm<K'.next) (hd:∀ nm ∈ dels,nm<H.next) :
  (qb6 H K' fp dels).get nm=if (H.next<=nm/\nm<K'.next)∨((It.mk i o f (zw H fp dels) v K' fp dels).qad=true/\(It.mk i o f (zw H fp dels) v K' fp dels).dom nm=true) then K'.get nm else H.get nm:=by
 unfold It.dom It.qad;simp only [qav];have base:∀ (q:Prop) [Decidable q],(q↔nm ∈ List.range' H.next (K'.next-H.next))->(kl K'.qbu (List.range' H.next (K'.next-H.next)) H.qbu).get nm=if q then K'.get nm else H.get nm:=by
  intro q _ hq;rw [jz];by_cases h:q
  .rw [zT h,zT (hq.1 h)];rfl
  .rw [zF h,zF (λx=>h (hq.2 x))];rfl
 cases fp with
 | none=>exact base _ (by rw [mem_range];simp)
 | reads l=>exact base _ (by rw [mem_range];simp)
 | call=>exact base _ (by rw [mem_range];simp)
 | writes l=>
  simp only [qb6,Heap.get,jz,List.mem_append,mem_range,true_and];have:(nm ∈ l.filter (λn=>Nat.blt n H.next&&!dels.any λm=>Nat.beq n m))↔((l.any λm=>Nat.beq nm m)&&okN H.next dels nm)=true:=by
   rw [List.mem_filter];exact ⟨λq=>Bool.and_eq_true_iff.2 ⟨qo8.2 q.1,q.2⟩,λq=>⟨qo8.1 (Bool.and_eq_true_iff.1 q).1,(Bool.and_eq_true_iff.1 q).2⟩⟩
  by_cases h1:H.next<=nm/\nm<K'.next
  .simp_all
  .grind
 | lone=>
  simp only [qb6,Heap.get,jz,true_and];by_cases h:nm ∈ dels
  .have:=hd nm h
   rw [if_pos h, if_neg (by rintro (q | q); · omega
                            .exact qmc q h)]
  .rw [zF h];by_cases h1:H.next<=nm
   .simp_all
   .rw [zT (.inr (qq8 (by omega) h))]
theorem qqj {E:Env} {call:Call} {all:Array Oper} {b:Array Nat} {fr0:Fr} {H0:Heap}
  (U:∀ k j p o,all[k]? = some p->all[j]? = some o->k<j->(b.getD j 0).testBit k=false->p.apart all o=true) :
  ∀ (rest:List Oper) (i:Nat) (done:List Done) (c:List It) (fr:Fr) (H:Heap) (fr':Fr) (H':Heap) (s:Loc->Val),
   qat E call all b i rest done fr H=some (fr',H')->(∀ k,rest[k]? = all[i+k]?)->
   (∀ p ∈ c,∃ d ∈ done,q7h d p)->(∀ d ∈ done,d.hi<=H.next)->(∀ p ∈ c,p.i<i/\p.K'.next<=H.next/\p.K.next<=p.K'.next/\all[p.i]? = some p.o)->
   fr.n=fr0.n->fr.defers=fr0.defers->H0.next<=H.next->H.ro=H0.ro->H.qp=H0.qp->H.ro<=H.next->Rep s fr H->
   ∃ m:List It,m.map (·.i)=List.range' i rest.length/\(∀ t ∈ m,ItOk E call all fr0 H0 t/\t.K'.next<=H'.next)/\qth (m.map (It.rw all)) s/\Rep (qyy (m.map (It.rw all)) s) fr' H'/\
    (∀ p ∈ c,∀ q ∈ m,Rl b all p q)/\m.Pairwise (Rl b all)/\fr'.n=fr0.n/\fr'.defers=fr0.defers/\H'.ro=H0.ro/\H'.qp=H0.qp/\H.next<=H'.next
 | [],i,done,c,fr,H,fr',H',s,h,z,hp,N,O,hn,w,P,Q,G,V,g=>by
  simp only [qat,zS,zP] at h;obtain ⟨rfl,rfl⟩:=h;exact ⟨[],rfl,by simp,trivial,g,by simp,.nil,hn,w,Q,G,zN _⟩
 | o::rest,i,done,c,fr,H,fr',H',s,h,z,hp,N,O,hn,w,P,Q,G,V,g=>by
  simp only [qat,zI] at h;obtain ⟨a0,hw,h⟩:=h;generalize a9:(bif a0 then (match qfe E o fr with
   | .call=>bif qjc E all b i then FP.lone else .call
   | x=>x) else .none)=fp at h
  generalize A:(done.filter λd=>!(b.getD i 0).testBit d.i)=free at h;generalize B:free.flatMap Done.names=dels at h;rw [cond_eq_ite] at h;split at h
  .cases h
  .rename_i a5;split at h
   .rename_i v K' W;rw [cond_eq_ite] at h;split at h
    .cases h
    .rename_i e;have e:H.next<=K'.next:=by
      rw [Nat.blt_eq] at e;omega
     have X:∀ nm ∈ dels,nm<H.next:=by
      intro nm D;rw [<-B,List.mem_flatMap] at D;obtain ⟨d,y,D⟩:=D;rw [<-A,List.mem_filter] at y;have:=N d y.1;unfold Done.names at D;rw [mem_range] at D;omega
     obtain ⟨t,F⟩:∃ t:It,t=⟨i,o,{fr with tmps:=kl fr.tmps (o.looksAt all) .nil},zw H fp dels,v,K',fp,dels⟩:=⟨_,rfl⟩;have R:all[i]? = some o:=by have:=z 0;simpa using this.symm
     have a6:ItOk E call all fr0 H0 t:=by
      subst F;refine ⟨W,R,by rw [qav];exact e,by rw [qav];exact P,?_,?_,?_,by rw [q9c];exact G,λnm f I=>?_,λx r=>?_,hn,w,by rw [qav];exact X⟩
      .unfold zw;split<;>simp<;>omega
      .unfold zw;split<;>simp<;>omega
      .unfold It.qad zw;cases fp<;>simp
      .rw [qav] at f;rw [q1y H fp dels i o {fr with tmps:=kl fr.tmps (o.looksAt all) .nil} v K' nm f] at I;by_cases D:(It.mk i o {fr with tmps:=kl fr.tmps (o.looksAt all) .nil} (zw H fp dels) v K' fp dels).dom nm=true
       .exact D
       .simp_all
      .rw [jz] at r;by_cases D:x ∈ o.looksAt all
       .exact D
       .rw [zF D] at r;simp [Tree.get] at r
     have a7:Rep ((t.rw all).app s) (fr.put o.dst v) (qb6 H K' fp dels):=by
      refine ⟨λx=>?_,λnm I=>?_⟩
      .have C:=g.1 x;simp only [RW.app,It.rw];subst F;by_cases r:o.dst=some x/\x<fr.n
       .rw [zT r];simp only [put_eq,r.1,cond_eq_ite,Nat.blt_eq,r.2,if_true,Option.getD_some,Tree.zn];exact ⟨trivial,zN _⟩
       .rw [zF r,Option.getD_none];refine ⟨C.1.trans ?_,zR C.2 e⟩;rw [put_eq];split
        .rename_i d y;rw [cond_eq_ite];split
         .rename_i f;rw [Nat.blt_eq] at f;simp only [Tree.zn];rw [zF (λ(q:x=d)=>r ⟨by rw [y,q],by rw [q];exact f⟩)]
         .rfl
        .rfl
      .have hg:=zce H K' fp dels i o {fr with tmps:=kl fr.tmps (o.looksAt all) .nil} v nm I X;rw [hg];simp only [RW.app,It.rw];subst F;simp only [qav];split
       .exact ⟨rfl,zN _⟩
       .rename_i r;have f:nm<H.next:=by
         by_cases h1:nm<H.next
         .exact h1
         .exact (r (.inl ⟨by omega,I⟩)).elim
        have C:=g.2 nm f;rw [Option.getD_none];exact ⟨C.1,zR C.2 e⟩
     have S:(t.rw all).qpx s:=by
      intro l p M;cases l with
      | inl x=>
       simp only [It.rw] at M;split at M
       .rename_i r;cases M;have C:=g.1 x;subst F;simp only at r;simp only [jz,zT r,qav];exact ⟨C.1.symm,C.2⟩
       .cases M
      | inr nm=>
       simp only [It.rw] at M;split at M
       .rename_i r;cases M;have f:=(It.qqw r).1;subst F;simp only [qav] at f;have C:=g.2 nm f;rw [q1y H fp dels i o {fr with tmps:=kl fr.tmps (o.looksAt all) .nil} v K' nm f,zT r];simp only [qav];exact ⟨C.1.symm,C.2⟩
       .cases M
     have T:∀ p ∈ c,Rl b all p t:=by
      intro p a;obtain ⟨a1,a2,a3,a4⟩:=O p a;obtain ⟨d,y,J⟩:=hp p a;have Y:=J;obtain ⟨d1,d2,d3,d4,_⟩:=Y;subst F;refine ⟨a1,by rw [qav];exact a2,?_⟩;by_cases u:(b.getD i 0).testBit p.i=true
      .exact .inl u
      .right;have u:(b.getD i 0).testBit p.i=false:=by simpa using u
       have w:d ∈ free:=by
        rw [<-A,List.mem_filter];exact ⟨y,by rw [d1,u];rfl⟩
       refine zno J (U _ _ _ _ a4 R a1 u) ?_ (by rw [qav];exact a2) a3 (λnm h1 h2=>?_)
       .have:=List.any_eq_false.1 (by simpa using a5) d w;simpa using this
       .show nm ∈ dels;rw [<-B,List.mem_flatMap];exact ⟨d,w,by unfold Done.names;rw [mem_range,d3,d4];exact ⟨h1,h2⟩⟩
     obtain ⟨m,e1,e2,e3,e4,e5,e6,e7,e8,e9,a8,Z⟩:=qqj U rest (i+1) (⟨i,fp,H.next,K'.next,dels⟩::done) (t::c) (fr.put o.dst v) (qb6 H K' fp dels) fr' H' ((t.rw all).app s) h
      (λk=>by have:=z (k+1);simpa [Nat.add_assoc,Nat.add_comm 1 k] using this)
      (by
        intro p a;rcases zD.1 a with rfl | a
        .exact ⟨_,zC,by subst F;exact ⟨rfl,rfl,by rw [qav],rfl,rfl⟩⟩
        .obtain ⟨d,y,J⟩:=hp p a;exact ⟨d,zG _ y,J⟩)
      (by
        intro d y;rcases zD.1 y with rfl | y
        .exact zN _
        .exact zR (N d y) e)
      (by
        intro p a;rcases zD.1 a with rfl | a
        .subst F;exact ⟨Nat.lt_succ_self _,zN _,by rw [qav];exact e,R⟩
        .obtain ⟨a1,a2,a3,a4⟩:=O p a;exact ⟨Nat.lt_succ_of_lt a1,zR a2 e,a3,a4⟩)
      ((q1k _ _ _).trans hn) ((put_defers _ _ _).trans w)
      (zR P e) Q G (zR V e) a7
     refine ⟨t::m,?_,?_,⟨S,e3⟩,e4,?_,?_,e7,e8,e9,a8,zR e Z⟩
     .simp only [List.map_cons,e1,List.length_cons,List.range'_succ];subst F;rfl
     .intro q L;rcases zD.1 L with rfl | L
      .refine ⟨a6,?_⟩;subst F;exact Z
      .exact e2 q L
     .intro p a q L;rcases zD.1 L with rfl | L
      .exact T p a
      .exact e5 p (zG _ a) q L
     .exact List.Pairwise.cons (λq L=>e5 t zC q L) e6
   .cases h
end Go.E2
/- E2: A REGION THAT DRAWS ITS ORDER: what holds between two of its operations, and how one operation keeps it. -/
namespace Go.E2
open Go
def qfx (G:qj) (B:Nat):qj:=λnm g=>if nm<B then G nm g else none
theorem jf {G:qj} {B nm g:Nat} {x} (h:qfx G B nm g=some x):nm<B/\G nm g=some x:=by
 unfold qfx at h;by_cases a:nm<B
 .simp_all
 .simp_all
theorem qda {G:qj} {B nm g:Nat} {x} (a:nm<B) (h:G nm g=some x):qfx G B nm g=some x:=by
 unfold qfx;rw [zT a];exact h
structure Mid (fr0:Fr) (H0:Heap) (G0:qj) (w0:World) (N:Nat) (R:List It) (s:Loc->Val) (G:qj) (a:Act) (w:World):Prop where
 lt:∀ nm g b sh n,G nm g=some (b,sh,n)->b<w.heap.size
 inj:∀ nm g b sh n nm' g' sh' n',G nm g=some (b,sh,n)->G nm' g'=some (b,sh',n')->nm=nm'/\sh=sh'
 free:∀ t ∈ R,∀ nm g,t.K.next<=nm->nm<t.K'.next->G nm g=none
 top:∀ nm g x,G nm g=some x->nm<N
 tmp:∀ x v,(s (.inl x)).1=some v->Rel (qfx G (s (.inl x)).2.2) w v (a.tmps.getD x undef)
 obj:∀ nm o,(s (.inr nm)).2.1=some o->nm<N->nm<(s (.inr nm)).2.2/\qdl (qfx G (s (.inr nm)).2.2) w nm o
 n:a.tmps.size=fr0.n
 dfr:qan (qfx G H0.next) w fr0.defers a.defers
 globs:∀ g o,g<H0.qp->(s (.inr g)).2.1=some o->∃ n,G g 0=some (g,0,n)
 keep:∀ nm,nm<H0.ro->(s (.inr nm)).2.1=H0.get nm
 ext:Ext H0.ro G0 w0 G w
 newG:∀ nm g x,G nm g=some x->nm<H0.ro->G0 nm g=some x
 frame:∀ nm,nm<H0.next->H0.get nm=none->(s (.inr nm)).2.1=none/\(∀ g b sh n,G0 nm g=some (b,sh,n)->w.heap[b]? = w0.heap[b]?)/\∀ g x,G nm g=some x->G0 nm g=some x
section
variable {E:Env} {call:Call} {all:Array Oper} {fr0:Fr} {H0:Heap} {G0:qj} {w0:World} {N:Nat} {s:Loc->Val} {G:qj} {a:Act} {w:World} {t:It}
theorem qyv {B a:Nat} (h:B<=a):Up (qfx G B) w (qfx G a) w:=
 ⟨λ_ _ _ b=>qda (zL (jf b).1 h) (jf b).2,λ_ _ h=>h⟩
theorem Mid.sim {R:List It} (m:Mid fr0 H0 G0 w0 N R s G a w) (l:H0.qp<=H0.ro) (ok:ItOk E call all fr0 H0 t) (D:t.K'.next<=N) (q:(t.rw all).qpx s) :
  Sim t.K (qfx G t.K.next) w/\SimFr (qfx G t.K.next) w t.f a:=by
 have d:∀ nm,nm<t.K.next->t.K.get nm≠none->(s (.inr nm)).2.1=t.K.get nm/\(s (.inr nm)).2.2<=t.K.next:=by
  intro nm c p;have r:=ok.dom nm c p;have:=q (.inr nm) (λy=>t.K.get nm=y.2.1/\y.2.2<=t.K.next) (by simp only [It.rw];rw [zT r]);exact ⟨this.1.symm,this.2⟩
 refine ⟨⟨λnm g b sh n e=>⟨m.lt _ _ _ _ _ (jf e).2,(jf e).1⟩,λnm g b sh n nm' F u H h j=>m.inj _ _ _ _ _ _ _ _ _ (jf h).2 (jf j).2,λnm o c i=>?_,ok.roN,?_,λg o e i=>?_⟩,⟨λx v k=>?_,by rw [m.n,ok.n],?_⟩⟩
 .obtain ⟨h,j⟩:=d nm c (by rw [i];simp);obtain ⟨z,A⟩:=m.obj nm o (h.trans i) (by have:=ok.le;omega);exact A.up (qyv j) (λg x k=>qda z (jf k).2) (λ_ _ _ _ _=>rfl)
 .rw [ok.qp];exact zR l ok.ro
 .rw [ok.qp] at e;have c:g<t.K.next:=by have:=ok.ro;have:=ok.roN;omega
  obtain ⟨h,j⟩:=d g c (by rw [i];simp);obtain ⟨n,B⟩:=m.globs g o e (h.trans i);exact ⟨n,qda c B⟩
 .have C:=ok.looks x (by rw [k];simp);have:=q (.inl x) (λy=>t.f.tmps.get x=y.1/\y.2.2<=t.K.next) (by simp only [It.rw];rw [zT C]);exact Rel.up (qyv this.2) (m.tmp x v (this.1.symm.trans k))
 .rw [ok.dfr];exact qan.up (qyv ok.start) m.dfr
def qno (G a:qj) (hi:Nat):qj:=λnm g=>if nm<hi then a nm g else G nm g
theorem qc8 {G a:qj} {hi nm g:Nat} (h:nm<hi):qno G a hi nm g=a nm g:=by unfold qno;rw [zT h]
theorem qhi {G a:qj} {hi nm g:Nat} (h:¬ nm<hi):qno G a hi nm g=G nm g:=by unfold qno;rw [zF h]
theorem Mid.step {A B:List It} (m:Mid fr0 H0 G0 w0 N (A++t::B) s G a w) (ok:ItOk E call all fr0 H0 t) (hN:t.K'.next<=N) (hf:(t.rw all).qpx s)
  (hA:∀ k ∈ A,k.K'.next<=t.K.next/\(k.rw all).dis (t.rw all)) (hB:∀ k ∈ B,t.K'.next<=k.K.next) {u:qj} {w1:World} (st:Step t.K (qfx G t.K.next) w t.K' u w1)
  {y:Value} (hy:Rel u w1 t.v y):Mid fr0 H0 G0 w0 N (A++B) ((t.rw all).app s) (qno G u t.K'.next) (a.put t.o.dst y) w1:=by
 have a8:=ok.le;have S:∀ nm g x,u nm g=some x->nm<t.K'.next:=λnm g x c=>(st.sim.lt nm g x.1 x.2.1 x.2.2 c).2
 have a7:∀ nm g,t.K.next<=nm->nm<t.K'.next->G nm g=none:=m.free t (by simp)
 have H:∀ nm g x,G nm g=some x->qno G u t.K'.next nm g=some x:=by
  intro nm g x c;by_cases h:nm<t.K'.next
  .rw [qc8 h];by_cases L:nm<t.K.next
   .exact st.ext.sub _ _ _ (qda L c)
   .simp_all
  .rw [qhi h];exact c
 have I:∀ nm g b sh n,¬ nm<t.K.next->G nm g=some (b,sh,n)->w1.heap[b]? = w.heap[b]?/\qh5 u b:=by
  intro nm g b sh n F i;refine st.ext.frg b (m.lt _ _ _ _ _ i) (λnm' g' X n' L=>?_);have:=jf L;have:=(m.inj _ _ _ _ _ _ _ _ _ i this.2).1;omega
 have z:∀ nm,¬ ((t.K.next<=nm/\nm<t.K'.next)∨(t.qad=true/\t.dom nm=true))->
   (∀ g x,qno G u t.K'.next nm g=some x->G nm g=some x)/\∀ g b sh n,G nm g=some (b,sh,n)->w1.heap[b]? = w.heap[b]?:=by
  intro nm l;by_cases C:nm<t.K.next
  .have hr:(∀ g x,u nm g=some x->qfx G t.K.next nm g=some x)/\∀ g b sh n,qfx G t.K.next nm g=some (b,sh,n)->w1.heap[b]? = w.heap[b]?:=by
    cases Y:t.qad with
    | false=>
     have T:=ok.roM Y;exact ⟨λg x c=>st.newG nm g x c (by omega),λg b sh n i=>st.ext.ro nm g b sh n (by omega) i⟩
    | true=>
     have p:t.K.get nm=none:=by
      by_cases M:t.K.get nm=none
      .exact M
      .exact (l (.inr ⟨Y,ok.dom nm C M⟩)).elim
     obtain ⟨_,f2,f3⟩:=st.frame nm C p;exact ⟨f3,f2⟩
   refine ⟨λg x c=>?_,λg b sh n i=>hr.2 g b sh n (qda C i)⟩;rw [qc8 (by omega)] at c;exact (jf (hr.1 g x c)).2
  .have r:¬ nm<t.K'.next:=λr=>l (.inl ⟨by omega,r⟩)
   exact ⟨λg x c=>by rw [qhi r] at c;exact c,λg b sh n i=>(I nm g b sh n C i).1⟩
 have J:∀ B,Up (qfx G B) w (qfx (qno G u t.K'.next) B) w1:=λB=>
  ⟨λnm g x c=>qda (jf c).1 (H _ _ _ (jf c).2),st.ext.shp⟩
 have Q:Up u w1 (qfx (qno G u t.K'.next) t.K'.next) w1:=
  ⟨λnm g x c=>qda (S _ _ _ c) (by rw [qc8 (S _ _ _ c)];exact c),λ_ _ h=>h⟩
 have U:∀ nm g x,qfx (qno G u t.K'.next) t.K'.next nm g=some x->u nm g=some x:=by
  intro nm g x c;have:=jf c;rw [qc8 this.1] at this;exact this.2
 have Z:∀ nm,t.dom nm=true->t.K.get nm=(s (.inr nm)).2.1/\(s (.inr nm)).2.2<=t.K.next:=by
  intro nm V;exact hf (.inr nm) (λy=>t.K.get nm=y.2.1/\y.2.2<=t.K.next) (by simp only [It.rw];rw [zT V])
 have O:∀ nm,(t.K.next<=nm/\nm<t.K'.next)∨(t.qad=true/\t.dom nm=true)->((t.rw all).app s) (.inr nm)=(none,t.K'.get nm,t.K'.next):=by
  intro nm h;simp only [RW.app,It.rw];rw [zT h,Option.getD_some]
 have l:∀ nm,¬ ((t.K.next<=nm/\nm<t.K'.next)∨(t.qad=true/\t.dom nm=true))->((t.rw all).app s) (.inr nm)=s (.inr nm):=by
  intro nm h;simp only [RW.app,It.rw];rw [zF h,Option.getD_none]
 refine ⟨λnm g b sh n i=>?_,λnm g b sh n nm' g' X n' C r=>?_,λk hk nm g C r=>?_,λnm g x c=>?_,λx v c=>?_,λnm o P a5=>?_,?_,?_,λg o i P=>?_,λnm F=>?_,?_,λnm g x c F=>?_,λnm F h0=>?_⟩
 .
  by_cases h:nm<t.K'.next
  .rw [qc8 h] at i;exact (st.sim.lt _ _ _ _ _ i).1
  .rw [qhi h] at i;exact zL (m.lt _ _ _ _ _ i) st.ext.size
 .
  by_cases h:nm<t.K'.next
  .rw [qc8 h] at C;by_cases L:nm'<t.K'.next
   .rw [qc8 L] at r;exact st.sim.inj _ _ _ _ _ _ _ _ _ C r
   .rw [qhi L] at r;exact ((I nm' g' b X n' (by omega) r).2 _ _ _ _ C).elim
  .rw [qhi h] at C;by_cases L:nm'<t.K'.next
   .rw [qc8 L] at r;exact ((I nm g b sh n (by omega) C).2 _ _ _ _ r).elim
   .rw [qhi L] at r;exact m.inj _ _ _ _ _ _ _ _ _ C r
 .
  have a0:G nm g=none:=by
   refine m.free k ?_ nm g C r;rcases List.mem_append.1 hk with h | h
   .exact List.mem_append.2 (.inl h)
   .exact List.mem_append.2 (.inr (zG _ h))
  have a1:¬ ((t.K.next<=nm/\nm<t.K'.next)∨(t.qad=true/\t.dom nm=true)):=by
   rcases List.mem_append.1 hk with h | h
   .obtain ⟨W,q2⟩:=hA k h;rintro (q | q)
    .omega
    .have:=((q2 (.inr nm)).1 (by simp only [It.rw];rw [zT (.inl ⟨C,r⟩)];simp)).2;simp only [It.rw] at this;rw [zT (.inr q)] at this;cases this
   .have W:=hB k h;rintro (q | q)
    .omega
    .have:=(It.qqw q.2).1;omega
  cases M:qno G u t.K'.next nm g with
  | none=>rfl
  | some x=>rw [(z nm a1).1 g x M] at a0;cases a0
 .
  by_cases h:nm<t.K'.next
  .omega
  .rw [qhi h] at c;exact m.top _ _ _ c
 .
  simp only [RW.app,It.rw] at c ⊢;by_cases V:t.o.dst=some x/\x<t.f.n
  .rw [zT V] at c ⊢;simp only [Option.getD_some,zS] at c ⊢;subst c;have j:x<a.tmps.size:=by rw [m.n,<-ok.n];exact V.2
   have e:(a.put t.o.dst y).tmps.getD x undef=y:=by
    simp only [Act.put,V.1];simp [Array.getElem?_setIfInBounds_self_of_lt j]
   rw [e];exact Rel.up Q hy
  .rw [zF V] at c ⊢;simp only [Option.getD_none] at c ⊢;have e:(a.put t.o.dst y).tmps.getD x undef=a.tmps.getD x undef:=by
    cases a2:t.o.dst with
    | none=>rfl
    | some d=>
     simp only [Act.put];by_cases a3:x=d
     .subst a3;have:¬ x<a.tmps.size:=by rw [m.n,<-ok.n];exact λq=>V ⟨a2,q⟩
      rw [Array.setIfInBounds_eq_of_size_le (Nat.le_of_not_lt this)]
     .simp [Array.getElem?_setIfInBounds_ne (Ne.symm a3)]
   rw [e];exact Rel.up (J _) (m.tmp x v c)
 .
  by_cases D:(t.K.next<=nm/\nm<t.K'.next)∨(t.qad=true/\t.dom nm=true)
  .rw [O nm D] at P ⊢;have j:nm<t.K'.next:=by
    rcases D with h | h
    .exact h.2
    .have:=(It.qqw h.2).1;omega
   exact ⟨j,(st.sim.obj nm o j P).up Q (λg x c=>U _ _ _ c) (λ_ _ _ _ _=>rfl)⟩
  .rw [l nm D] at P ⊢;obtain ⟨W,q2⟩:=m.obj nm o P a5;obtain ⟨q3,q4⟩:=z nm D;exact ⟨W,q2.up (J _) (λg x c=>qda W (q3 g x (jf c).2)) (λg b sh n i=>q4 g b sh n (jf i).2)⟩
 .have:(a.put t.o.dst y).tmps.size=a.tmps.size:=by
   cases t.o.dst<;>simp [Act.put]
  rw [this];exact m.n
 .have:(a.put t.o.dst y).defers=a.defers:=by
   cases t.o.dst<;>rfl
  rw [this];exact qan.up (J _) m.dfr
 .
  by_cases D:(t.K.next<=g/\g<t.K'.next)∨(t.qad=true/\t.dom g=true)
  .rw [O g D] at P;have a6:g<t.K'.qp:=by rw [st.qp,ok.qp];exact i
   obtain ⟨n,F⟩:=st.sim.globs g o a6 P;exact ⟨n,by rw [qc8 (S _ _ _ F)];exact F⟩
  .rw [l g D] at P;obtain ⟨n,F⟩:=m.globs g o i P;exact ⟨n,H _ _ _ F⟩
 .
  have T:=ok.ro;have R:=ok.roN;by_cases D:(t.K.next<=nm/\nm<t.K'.next)∨(t.qad=true/\t.dom nm=true)
  .rw [O nm D];simp only;rw [st.keep nm (by omega)];rcases D with h | h
   .omega
   .rw [(Z nm h.2).1];exact m.keep nm F
  .rw [l nm D];exact m.keep nm F
 .
  have T:=ok.ro;have R:=ok.roN;refine m.ext.trans ⟨H,λb hb a4=>?_,st.ext.size,st.ext.shp,λnm g b sh n F i=>?_,st.ext.out⟩
  .have:=st.ext.frg b hb (λnm g sh n h=>a4 _ _ _ _ (jf h).2);refine ⟨this.1,λnm g sh n h=>?_⟩;by_cases j:nm<t.K'.next
   .rw [qc8 j] at h;exact this.2 _ _ _ _ h
   .rw [qhi j] at h;exact a4 _ _ _ _ h
  .exact st.ext.ro nm g b sh n (by omega) (qda (by omega) i)
 .
  have T:=ok.ro;have R:=ok.roN;rw [qc8 (by omega)] at c;exact m.newG nm g x (jf (st.newG nm g x c (by omega))).2 F
 .
  obtain ⟨W,q2,q3⟩:=m.frame nm F h0;have a9:=ok.start;have j:nm<t.K.next:=by omega
  have p:t.K.get nm=none:=by
   by_cases M:t.K.get nm=none
   .exact M
   .have:=ok.dom nm j M;rw [(Z nm this).1,W] at M;exact (M rfl).elim
  obtain ⟨f1,f2,f3⟩:=st.frame nm j p;refine ⟨?_,λg b sh n i=>?_,λg x c=>?_⟩
  .by_cases D:(t.K.next<=nm/\nm<t.K'.next)∨(t.qad=true/\t.dom nm=true)
   .rw [O nm D];exact f1
   .rw [l nm D];exact W
  .exact (f2 g b sh n (qda j (m.ext.sub _ _ _ i))).trans (q2 g b sh n i)
  .rw [qc8 (by omega)] at c;exact q3 g x (jf (f3 g x c)).2
end
end Go.E2
/- E2: A REGION THAT DRAWS ITS ORDER, whole. -/
namespace Go.E2
open Go
def qrf (acc:Array Nat) (o:Oper):Nat:=o.after.foldl (λs e=>if Region.binds .any e then s ||| 2 ^ e.on ||| acc.getD e.on 0 else s) 0
theorem quy (acc:Array Nat) (o:Oper):qrf acc o=o.after.toList.foldl (λs e=>if Region.binds .any e then s ||| 2 ^ e.on ||| acc.getD e.on 0 else s) 0:=by
 unfold qrf;rw [Array.foldl_toList]
theorem qw5 (acc:Array Nat) (k:Nat):∀ (l:List Edge) (s:Nat),(l.foldl (λs e=>if Region.binds .any e then s ||| 2 ^ e.on ||| acc.getD e.on 0 else s) s).testBit k=true->
  s.testBit k=true∨∃ e ∈ l,Region.binds .any e=true/\(k=e.on∨(acc.getD e.on 0).testBit k=true)
 | [],s,h=>.inl h
 | e::l,s,h=>by
  simp only [List.foldl_cons] at h;rcases qw5 acc k l _ h with a | ⟨c,d,a⟩
  .by_cases b:Region.binds .any e=true
   .rw [zT b,Nat.testBit_or,Nat.testBit_or,Bool.or_eq_true,Bool.or_eq_true] at a;rcases a with (a | a) | a
    .exact .inl a
    .rw [Nat.testBit_two_pow,decide_eq_true_eq] at a;exact .inr ⟨e,zC,b,.inl a.symm⟩
    .exact .inr ⟨e,zC,b,.inr a⟩
   .rw [zF b] at a;exact .inl a
  .exact .inr ⟨c,zG _ d,a⟩
theorem qqz (acc a:Array Nat):∀ (l:List Edge) (s:Nat),(∀ e ∈ l,Region.binds .any e=true->acc.getD e.on 0=a.getD e.on 0)->
  l.foldl (λs e=>if Region.binds .any e then s ||| 2 ^ e.on ||| acc.getD e.on 0 else s) s=l.foldl (λs e=>if Region.binds .any e then s ||| 2 ^ e.on ||| a.getD e.on 0 else s) s
 | [],_,_=>rfl
 | e::l,s,h=>by
  simp only [List.foldl_cons];by_cases b:Region.binds .any e=true
  .rw [h e zC b];exact qqz acc a l _ (λc d=>h c (zG _ d))
  .rw [zF b,zF b];exact qqz acc a l _ (λc d=>h c (zG _ d))
theorem q17 {acc a:Array Nat} {o:Oper} (h:∀ e ∈ o.after,Region.binds .any e=true->acc.getD e.on 0=a.getD e.on 0):qrf acc o=qrf a o:=by
 rw [quy,quy];exact qqz _ _ _ _ (λe b=>h e (Array.mem_toList_iff.1 b))
theorem qu2 {all:Array Oper} (p:∀ (j:Nat) (o:Oper),all[j]? = some o->∀ e ∈ o.after,Region.binds .any e=true->e.on<j):∀ (l:List Oper) (a:Array Nat),all.toList.drop a.size=l->
  (∀ j o,j<a.size->all[j]? = some o->a.getD j 0=qrf a o)->
  ∀ j o,all[j]? = some o->(l.foldl (λa o=>a.push (qrf a o)) a).getD j 0=qrf (l.foldl (λa o=>a.push (qrf a o)) a) o
 | [],a,h,k,j,o,c=>by
  have:all.size<=a.size:=by
   have:=congrArg List.length h;simp at this;omega
  have f:j<all.size:=by
   rw [Array.getElem?_eq_some_iff] at c;exact c.1
  exact k j o (by omega) c
 | x::l,a,h,k,j,o,c=>by
  have q:all[a.size]? = some x:=by
   have:all.toList[a.size]? = some x:=by
    have r:(all.toList.drop a.size)[0]? = some x:=by rw [h];rfl
    simpa using r
   simpa using this
  have d:∀ j,j<a.size->(a.push (qrf a x)).getD j 0=a.getD j 0:=by
   intro j f;simp [Array.getElem?_push_lt f,Array.getElem?_eq_getElem f]
  refine qu2 p l (a.push (qrf a x)) ?_ (λj o f c=>?_) j o c
  .rw [Array.size_push,<-List.drop_drop (i:=1) (j:=a.size)];rw [h];rfl
  .rw [Array.size_push] at f;have b:∀ e ∈ o.after,Region.binds .any e=true->a.getD e.on 0=(a.push (qrf a x)).getD e.on 0:=λe s m=>(d _ (by have:=p j o c e s m;omega)).symm;by_cases g:j<a.size
   .rw [d j g,k j o g c];exact q17 b
   .have n:j=a.size:=by omega
    subst n;rw [q] at c;cases c;have:(a.push (qrf a x)).getD a.size 0=qrf a x:=by simp
    rw [this];exact q17 b
theorem qw4 {all:Array Oper} (d:∀ (j:Nat) (o:Oper),all[j]? = some o->∀ e ∈ o.after,Region.binds .any e=true->e.on<j) {j k:Nat} {o:Oper} (f:all[j]? = some o) (h:((Region.before all).getD j 0).testBit k=true) :
  ∃ e ∈ o.after,Region.binds .any e=true/\(k=e.on∨((Region.before all).getD e.on 0).testBit k=true):=by
 have g:Region.before all=all.toList.foldl (λa o=>a.push (qrf a o)) #[]:=by
  unfold Region.before;rw [<-Array.foldl_toList];rfl
 have b:=qu2 d all.toList #[] (by simp) (λj o i=>by simp at i) j o f;rw [<-g] at b;rw [b,quy] at h;rcases qw5 _ _ _ _ h with c | ⟨e,c,l⟩
 .simp at c
 .grind
section
variable {P:Program} {sp:Nat->Option (List V->Heap->Option (CR×Heap))} {call:Call} {all:Array Oper} {fr0:Fr} {H0:Heap} {G0:qj} {w0:World} {N:Nat} {F:Fence} {n:Nat} {Q:Exit->Act->World->Prop}
theorem qus {listed:Array Bool} {i:Nat}:i ∈ Region.ready .any all listed↔i<all.size/\listed.getD i true=false/\∃ o,all[i]? = some o/\∀ e ∈ o.after,Region.binds .any e=true->listed.getD e.on false=true:=by
 unfold Region.ready;rw [List.mem_filter,List.mem_range];constructor
 .rintro ⟨b,a⟩;rw [zA,Bool.not_eq_true'] at a;obtain ⟨a,c⟩:=a;refine ⟨b,a,?_⟩;have d:all[i]? = some all[i]:=Array.getElem?_eq_getElem b;refine ⟨_,d,λe f g=>?_⟩;rw [d,zH,Option.getD_some,Array.all_eq_true'] at c;have:=c e f;rw [g] at this;simpa using this
 .grind
theorem zbw (hc:qdx P call) (hF:qeu F) (aa:H0.qp<=H0.ro) (hb:∀ (j:Nat) (o:Oper),all[j]? = some o->∀ e ∈ o.after,Region.binds .any e=true->e.on<j) (E:Loc->Val)
  (hQ:∀ G a w,Mid fr0 H0 G0 w0 N [] E G a w->Q .normal a w) :
  ∀ (m:Nat) (R:List It) (b:Array Bool) (s:Loc->Val) (G:qj) (a:Act) (w:World),R.length=m->b.size=all.size->(∀ i,i<all.size->(b.getD i true=false↔∃ t ∈ R,t.i=i))->
   (∀ j k,j<all.size->b.getD j true=true->((Region.before all).getD j 0).testBit k=true->b.getD k true=true)->
   (∀ t ∈ R,ItOk (qw P sp) call all fr0 H0 t/\t.K'.next<=N)->R.Pairwise (Rl (Region.before all) all)->qth (R.map (It.rw all)) s->qyy (R.map (It.rw all)) s=E->Mid fr0 H0 G0 w0 N R s G a w->
   wpAnyIn F n P .any all Q m b a w:=by
 intro m
 induction m with
 | zero=>
  intro R b s G a w p a1 l M C O H q u;have hR:R=[]:=List.eq_nil_of_length_eq_zero p;subst hR;refine ⟨?_,?_⟩
  .rw [List.eq_nil_iff_forall_not_mem];intro i hi;obtain ⟨h1,h2,_⟩:=qus.1 hi;obtain ⟨t,L,_⟩:=(l i h1).1 h2;cases L
  .have:s=E:=q;subst this;exact hQ _ _ _ u
 | succ m ih=>
  intro R b s G a w p a1 l M C O H q u;have a2:∀ t ∈ R,t.i<all.size:=λt L=>by
   have:=(C t L).1.op;rw [Array.getElem?_eq_some_iff] at this;exact this.1
  refine ⟨λa3=>?_,λi hi=>?_⟩
  .exfalso;obtain ⟨r,R',rfl⟩:∃ r R',R=r::R':=by
    cases R with
    | nil=>simp at p
    | cons r R'=>simp_all
   have hr:=a2 r zC;have f:r.i ∈ Region.ready .any all b:=by
    refine qus.2 ⟨hr,(l r.i hr).2 ⟨r,zC,rfl⟩,r.o,(C r zC).1.op,λe W ab=>?_⟩;have a4:=hb _ _ (C r zC).1.op e W ab;have U:¬ b.getD e.on true=false:=by
     intro hq;obtain ⟨t,L,S⟩:=(l e.on (by omega)).1 hq;rcases zD.1 L with rfl | L
     .omega
     .have:=((List.pairwise_cons.1 O).1 t L).1;omega
    have g:e.on<b.size:=by omega
    simp only [Array.getD_eq_getD_getElem?,Array.getElem?_eq_getElem g,Option.getD_some] at U ⊢;simpa using U
   rw [a3] at f;cases f
  .obtain ⟨h1,h2,o,ho,h3⟩:=qus.1 hi;obtain ⟨t,L,S⟩:=(l i h1).1 h2;obtain ⟨A,B,rfl⟩:=List.append_of_mem L;obtain ⟨z,hN⟩:=C t L;have a5:=z.op;rw [S,ho] at a5;cases a5;rw [List.pairwise_append] at O;obtain ⟨pA,pB,X⟩:=O;obtain ⟨a6,ad⟩:=List.pairwise_cons.1 pB;have hA:∀ k ∈ A,k.K'.next<=t.K.next/\(k.rw all).dis (t.rw all):=by
    intro k d;obtain ⟨q1,q2,q3⟩:=X k d t zC;refine ⟨q2,q3.resolve_left (λI=>?_)⟩;unfold ztv at I;rw [S] at I;obtain ⟨e,W,c,Y⟩:=qw4 hb ho I;have hl:=h3 e W c;have a4:=hb _ _ ho e W c;have g:e.on<b.size:=by omega
    have T:b.getD e.on true=true:=by
     simp only [Array.getD_eq_getD_getElem?,Array.getElem?_eq_getElem g,Option.getD_some] at hl ⊢;exact hl
    have ae:b.getD k.i true=true:=by
     rcases Y with h | h
     .simp_all
     .exact M e.on k.i (by omega) T h
    have a7:=(l k.i (a2 k (List.mem_append.2 (.inl d)))).2 ⟨k,List.mem_append.2 (.inl d),rfl⟩;rw [ae] at a7;cases a7
   have hB:∀ k ∈ B,t.K'.next<=k.K.next:=λk d=>(a6 k d).2.1
   rw [List.map_append,List.map_cons] at H q;obtain ⟨v1,v2,v3⟩:=zgr (A.map (It.rw all)) (t.rw all) (B.map (It.rw all)) s (λx Z=>by
    obtain ⟨k,d,rfl⟩:=List.mem_map.1 Z;exact (hA k d).2) H
   obtain ⟨ms,mf⟩:=u.sim aa z hN v1;have f:∀ k,k ∈ A++B->k ∈ A++t::B:=by
    intro k d;rcases List.mem_append.1 d with h | h
    .exact List.mem_append.2 (.inl h)
    .exact List.mem_append.2 (.inr (zG _ h))
   have a0:∀ k ∈ A++B,k.i≠t.i:=by
    intro k d;rcases List.mem_append.1 d with h | h
    .have:=(X k h t zC).1;omega
    .have:=(a6 k h).1;omega
   unfold wpOpIn;rw [ho];refine qoo hc hF ms mf z.run (λv y w' G' hv st hy=>?_) (λw' G' ch af Z=>by cases Z);cases hv;refine ih (A++B) (b.setIfInBounds i true) ((t.rw all).app s) _ _ w' (by simp at p ⊢;omega) (by simp [a1]) (λj hj=>?_) (λj k hj a8 V=>?_) (λk d=>C k (f k d)) ?_ (by rw [List.map_append];exact v2)
    (by rw [List.map_append,v3];exact q) (u.step z hN v1 hA hB st hy)
   .by_cases D:j=i
    .subst D;have:(b.setIfInBounds j true).getD j true=true:=by simp [Array.getElem?_setIfInBounds_self];split<;>simp
     rw [this];refine ⟨λh=>(Bool.noConfusion h),λ⟨k,d,ag⟩=>(a0 k d (by omega)).elim⟩
    .have:(b.setIfInBounds i true).getD j true=b.getD j true:=by
      simp [Array.getElem?_setIfInBounds_ne (Ne.symm D)]
     rw [this,l j hj];constructor
     .rintro ⟨k,d,rfl⟩;rcases List.mem_append.1 d with h | h
      .exact ⟨k,List.mem_append.2 (.inl h),rfl⟩
      .rcases zD.1 h with rfl | h
       .exact (D S).elim
       .exact ⟨k,List.mem_append.2 (.inr h),rfl⟩
     .rintro ⟨k,d,rfl⟩;exact ⟨k,f k d,rfl⟩
   .have J:∀ x,b.getD x true=true->(b.setIfInBounds i true).getD x true=true:=by
     intro x Z;by_cases a9:x=i
     .subst a9;simp [Array.getElem?_setIfInBounds_self];split<;>simp
     .simpa [Array.getElem?_setIfInBounds_ne (Ne.symm a9)] using Z
    by_cases D:j=i
    .subst D;obtain ⟨e,W,c,Y⟩:=qw4 hb ho V;have hl:=h3 e W c;have a4:=hb _ _ ho e W c;have g:e.on<b.size:=by omega
     have T:b.getD e.on true=true:=by
      simp only [Array.getD_eq_getD_getElem?,Array.getElem?_eq_getElem g,Option.getD_some] at hl ⊢;exact hl
     rcases Y with h | h
     .rw [h];exact J _ T
     .exact J _ (M e.on k (by omega) T h)
    .rw [show (b.setIfInBounds i true).getD j true=b.getD j true by simp [Array.getElem?_setIfInBounds_ne (Ne.symm D)]] at a8;exact J _ (M j k hj a8 V)
   .exact List.pairwise_append.2 ⟨pA,ad,λx Z y hy=>X x Z y (zG _ hy)⟩
theorem zbt {l:List Oper} {p:Oper×Nat->Bool} (h:l.zipIdx.all p=true) {i:Nat} {o:Oper} (a:l[i]? = some o):p (o,i)=true:=
 List.all_eq_true.1 h (o,i) (List.mem_zipIdx_iff_getElem?.2 a)
theorem q2k (hc:qdx P call) (hm:P.follows .mixedOrders=true):qts P sp call:=by
 intro ops fr H fr' H' h T G w a F n id Q hF A e hQ;have q:∀ j o,ops[j]? = some o->(∀ e ∈ o.after,Region.binds .any e=true->e.on<j)/\∀ k p,ops[k]? = some p->k<j->((Region.before ops).getD j 0).testBit k=false->p.apart ops o=true:=by
  intro j o c;have S:=zbt T (by simpa using c:ops.toList[j]? = some o);simp only [zA] at S;refine ⟨λe he U=>?_,λk p V hk r=>?_⟩
  .have:=Array.all_eq_true'.1 S.1.1 e he;rw [U] at this;simpa using this
  .have W:=zbt S.2 (by simpa using V:ops.toList[k]? = some p);simp only [Bool.or_eq_true,Nat.ble_eq,r,Bool.false_eq_true,or_false] at W;exact W.resolve_left (by omega)
 have hb:∀ (j:Nat) (o:Oper),ops[j]? = some o->∀ e ∈ o.after,Region.binds .any e=true->e.on<j:=λj o c=>(q j o c).1;obtain ⟨s,u⟩:∃ s:Loc->Val,s=λl=>match l with
  | .inl x=>(fr.tmps.get x,none,H.next)
  | .inr nm=>(none,if nm<H.next then H.get nm else none,H.next):=⟨_,rfl⟩
 have J:Rep s fr H:=by
  subst u;exact ⟨λx=>⟨rfl,zN _⟩,λnm X=>⟨by simp only;rw [zT X],zN _⟩⟩
 obtain ⟨y,e1,e2,e3,K,_,e6,e7,e8,Y,D,L⟩:=qqj (λk j p o V c hk r=>(q j o c).2 k p V hk r) ops.toList 0 [] [] fr H fr' H' s h (λk=>by simp) (by simp) (by simp) (by simp) rfl rfl (zN _) rfl rfl A.ro J;obtain ⟨w1,E⟩:∃ w1:World,w1 = {w with drawn:=w.drawn+1}:=⟨_,rfl⟩;have st0:Step H G w H G w1:=Step.same A (by rw [E]) (by rw [E];exact ⟨rfl,rfl⟩);have Z:=e.ext st0.ext;refine wpIn_region_any hm ?_;rw [<-E];have M:y.length=ops.size:=by
  have:=congrArg List.length e1;simpa using this
 have I:Up G w1 (qfx G H.next) w1:=⟨λnm g x d=>qda (st0.sim.lt nm g x.1 x.2.1 x.2.2 d).2 d,λ_ _ h=>h⟩;have N:Mid fr H G w1 H'.next y s G a w1:=by
  refine ⟨λnm g b sh n C=>(st0.sim.lt _ _ _ _ _ C).1,st0.sim.inj,λt ht nm g S W=>?_,λnm g x d=>?_,λx v d=>?_,λnm o c _=>?_,Z.n,qan.up I Z.dfr,λg o C c=>?_,λnm O=>?_,Ext.refl _ _ _,λ_ _ _ h _=>h,λnm O h0=>?_⟩
  .cases hq:G nm g with
   | none=>rfl
   | some x=>have:=(st0.sim.lt nm g x.1 x.2.1 x.2.2 hq).2;have:=(e2 t ht).1.start;omega
  .have:=(st0.sim.lt nm g x.1 x.2.1 x.2.2 d).2;omega
  .subst u;exact Rel.up I (Z.tmps x v d)
  .subst u;simp only at c ⊢;by_cases f:nm<H.next
   .rw [zT f] at c;exact ⟨f,(st0.sim.obj nm o f c).up I (λg x d=>(jf d).2) (λ_ _ _ _ _=>rfl)⟩
   .simp_all
  .subst u;simp only at c;have:=A.qp;have:=A.ro;rw [zT (by omega)] at c;exact st0.sim.globs g o C c
  .subst u;have:=A.ro;simp only;rw [zT (by omega)]
  .simp_all
 refine zbw hc hF A.qp hb (qyy (y.map (It.rw ops)) s) (λG' a' w' m=>?_) ops.size y (Array.replicate ops.size false) s G a w1 M (by simp) (λi hi=>?_) (λj k hj a1 _=>?_) e2 e6 e3 rfl N
 .have z:∀ B,Up (qfx G' B) w' G' w':=λB=>⟨λnm g x d=>(jf d).2,λ_ _ h=>h⟩;have R:=A.ro;refine hQ _ _ _ ⟨G',st0.trans ⟨m.ext,⟨λnm g b sh n C=>⟨m.lt _ _ _ _ _ C,m.top _ _ _ C⟩,m.inj,λnm o f c=>?_,by rw [Y];exact zR R L,by rw [Y,D];exact A.qp,λg o C c=>?_⟩,L,Y,D,λnm O=>?_,m.newG,λnm O h0=>?_⟩,⟨λx v d=>?_,by rw [m.n,e7],?_⟩,rfl⟩
  .have hr:=(K.2 nm f).1;obtain ⟨q1,q2⟩:=m.obj nm o (hr.trans c) f;exact q2.up (z _) (λg x d=>qda q1 d) (λ_ _ _ _ _=>rfl)
  .rw [D] at C;have:=A.qp;have hr:=(K.2 g (by omega)).1;exact m.globs g o C (hr.trans c)
  .rw [<-(K.2 nm (by omega)).1];exact m.keep nm O
  .obtain ⟨q1,q2,q3⟩:=m.frame nm O h0;exact ⟨by rw [<-(K.2 nm (by omega)).1];exact q1,q2,q3⟩
  .exact Rel.up (z _) (m.tmp x v ((K.1 x).1.trans d))
  .rw [e8];exact qan.up (z _) m.dfr
 .have:(Array.replicate ops.size false).getD i true=false:=by simp [hi]
  rw [this];refine ⟨λ_=>?_,λ_=>rfl⟩;have hm:i ∈ y.map (·.i):=by rw [e1,List.mem_range'_1];simp;exact hi
  obtain ⟨t,ht,a0⟩:=List.mem_map.1 hm;exact ⟨t,ht,a0⟩
 .simp_all
end
end Go.E2
/- E2: DEFERRED CALLS: what E2 makes of a function that is deferred, and of what is recovered in it, the model makes of it. -/
namespace Go.E2
open Go
def qf2 (G:qj) (w:World):Md->FrameMode->Prop
 | .returning,u=>u=.returning
 | .panicking v,u=>∃ x,u=.panicking [{v:=x,recovered:=false}]/\Rel G w v x
 | .recovered v,u=>∃ x,u=.panicking [{v:=x,recovered:=true}]/\Rel G w v x
theorem qf2.ext {r:Nat} {G c:qj} {w w':World} (h:Ext r G w c w') {md:Md} {u:FrameMode} (e:qf2 G w md u):qf2 c w' md u:=by
 cases md with
 | returning=>exact e
 | panicking v=>obtain ⟨x,a,b⟩:=e;exact ⟨x,a,b.ext h⟩
 | recovered v=>obtain ⟨x,a,b⟩:=e;exact ⟨x,a,b.ext h⟩
theorem qf2.settle {G:qj} {w:World} {md:Md} {u:FrameMode} (e:qf2 G w md u):qf2 G w (q39 md) (Go.settle u):=by
 cases md with
 | returning=>subst e;rfl
 | panicking v=>obtain ⟨x,rfl,a⟩:=e;exact ⟨x,rfl,a⟩
 | recovered v=>obtain ⟨x,rfl,a⟩:=e;rfl
theorem qf2.zfb {G:qj} {w:World} {md:Md} {u:FrameMode} (e:qf2 G w md u):u≠.run:=by
 cases md with
 | returning=>subst e;simp
 | panicking v=>obtain ⟨x,rfl,a⟩:=e;simp
 | recovered v=>obtain ⟨x,rfl,a⟩:=e;simp
section
variable {P:Program} {sp:Nat->Option (List V->Heap->Option (CR×Heap))} {call:Call} {H:Heap} {G:qj} {w:World} {fr:Fr} {a:Act} {F:Fence} {n:Nat}
def qz6 (H:Heap) (G:qj) (w:World) (x:Ex×Md×Fr×Heap) (d:Frame) (cs:List Frame):Exit->Act->List Frame->World->Prop:=
 λe f b w'=>∃ c,b = {d with mode:=c}::cs/\∃ a,Step H G w x.2.2.2 a w'/\SimFr a w' x.2.2.1 f/\qpt a w' x.1 e/\qf2 a w' x.2.1 c
theorem qz6.trans {H':Heap} {d:qj} {w':World} (h:Step H G w H' d w') {x:Ex×Md×Fr×Heap} {e:Frame} {u:FrameMode} {cs:List Frame} {ex:Exit} {f:Act} {a:List Frame} {b:World} (g:qz6 H' d w' x {e with mode:=u} cs ex f a b):qz6 H G w x e cs ex f a b:=by
 obtain ⟨i,j,c,k,l,m,n⟩:=g;exact ⟨i,j,c,h.trans k,l,m,n⟩
theorem q6o {o:Oper} (h:qg0 o=true):(execOp a.eval o).run P w=.ok .recover w:=by
 unfold qg0 at h;split at h
 .rename_i c b;split at h
  .rename_i d;simp only [execOp,b,resolve,d,Sem.run_bind,Sem.run_pure,Result.andThen_ok,invoke,builtin]
  .cases h
 .cases h
theorem qcg (m:qeu F) {all:Array Oper} {D:Frame} {cs:List Frame} {x:Ex×Md×Fr×Heap} {Q:Exit->Act->List Frame->World->Prop}:∀ (l:List Oper) (k:Nat) (_:∀ j,l[j]? = all[k+j]?) (H:Heap) (G:qj) (w:World) (md:Md) (u:FrameMode) (fr:Fr) (a:Act),Sim H G w->SimFr G w fr a->qf2 G w md u->
  qfa (qw P sp) all l md fr H=some x->(∀ e q c w',qz6 H G w x D cs e q c w'->Q e q c w')->wpOpsSIn F n P all Q (List.range' k l.length) a ({D with mode:=u}::cs) w
 | [],k,s,H,G,w,md,u,fr,a,g,e,d,h,i=>by
  simp only [qfa,zS] at h;subst h;exact i _ _ _ _ ⟨u,rfl,G,Step.refl g,e,rfl,d⟩
 | o::l,k,s,H,G,w,md,u,fr,a,g,e,d,h,i=>by
  have E:all[k]? = some o:=by simpa using (s 0).symm
  have b:∀ j,l[j]? = all[k+1+j]?:=λj=>by have:=s (j+1);simpa [Nat.add_assoc,Nat.add_comm 1 j] using this
  simp only [qfa] at h;simp only [List.length_cons,List.range'_succ,wpOpsSIn,E];refine ⟨qhe m,?_⟩;split at h
  .rename_i t;rw [qg7 e t,zT rfl];rw [cond_eq_ite] at h;split at h
   .rename_i I;rw [q6o (P:=P) I];cases md with
    | returning=>
     simp only [qf2] at d;subst d;simp only [recoverD];exact qcg m l (k+1) b H G w .returning .returning _ _ g (e.put _ (by simp only [Rel])) rfl h i
    | recovered v=>
     obtain ⟨y,rfl,r⟩:=d;simp only [recoverD];exact qcg m l (k+1) b H G w (.recovered v) _ _ _ g (e.put _ (by simp only [Rel])) ⟨y,rfl,r⟩ h i
    | panicking v=>
     obtain ⟨y,rfl,r⟩:=d;simp only [recoverD];exact qcg m l (k+1) b H G w (.recovered v) _ _ _ g (e.put _ r) ⟨y,rfl,r⟩ h i
   .split at h
    .rename_i v H' p;obtain ⟨y,w',z,A,f,J⟩:=qgv g e p;rw [A];exact qcg m l (k+1) b H' z w' md u _ _ f.sim ((e.ext f.ext).put _ J) (d.ext f.ext) h (λK q c B C=>i _ _ _ _ (C.trans f (u:=u)))
    .rename_i H' p;obtain ⟨w',z,A,f⟩:=qgv g e p;rw [A];exact qcg m l (k+1) b H' z w' md u _ _ f.sim ((e.ext f.ext).put _ qim) (d.ext f.ext) h (λK q c B C=>i _ _ _ _ (C.trans f (u:=u)))
    .cases h
  .rename_i t;rw [qg7 e t];simp only [Bool.false_eq_true,if_false];exact qcg m l (k+1) b H G w md u _ _ g (e.put _ qim) d h i
  .cases h
theorem qac (o:qdx P call) (p:qts P sp call) (fn:FuncId) (fuel:Nat) (c:Code) (f:codeOk c=true) (H:Heap) (G:qj) (w:World) (md:Md) (u:FrameMode) (fr:Fr) (a:Act) (x:Ex×Md×Fr×Heap) (F:Fence) (n:Nat) (Q:Exit->Act->List Frame->World->Prop) (i:Frame) (cs:List Frame)
  (j:qeu F) (b:F.round=none) (k:Sim H G w) (e:SimFr G w fr a) (hm:qf2 G w md u) (h:qcz (qw P sp) call fn fuel c md fr H=some x) (l:∀ e g d w',qz6 H G w x i cs e g d w'->Q e g d w'):c.wpSIn F n P Q a ({i with mode:=u}::cs) w:=by
 unfold qcz at h;rw [cond_eq_ite] at h;split at h
 .split at h
  .rename_i id ops _;refine wpSIn_region ?_;have:=qcg (n:=n) (Q:=Q) j ops.toList 0 (by simp) H G w md u fr a k e hm h l;rw [List.range_eq_range',<-Array.length_toList];exact this
  .cases h
 .obtain ⟨z,q,rfl⟩:=zM.1 h;refine wpSIn_of_wpIn b ?_;refine jl o p fn fuel c f none H G w fr a z F n _ j b k e q (λex g w' r=>?_);obtain ⟨s,m,t,v⟩:=r;exact l _ _ _ _ ⟨u,rfl,s,m,t,v,hm.ext m.ext⟩
theorem qdf (p:qdx P call) (q:qts P sp call) (fn:FuncId) (fuel:Nat):∀ (c:Code) (_:codeOk c=true) (H:Heap) (G:qj) (w:World) (md:Md) (u:FrameMode) (fr:Fr) (a:Act) (x:Ex×Md×Fr×Heap) (F:Fence) (n:Nat) (Q:Exit->Act->List Frame->World->Prop) (i:Frame) (cs:List Frame),
  qeu F->F.round=none->Sim H G w->SimFr G w fr a->qf2 G w md u->qai (qw P sp) call fn fuel c md fr H=some x->(∀ e K t w',qz6 H G w x i cs e K t w'->Q e K t w')->c.wpSIn F n P Q a ({i with mode:=u}::cs) w
 | .seq c d,b,H,G,w,md,u,fr,a,x,F,n,Q,i,cs,k,g,j,e,m,h,o=>by
  simp only [qai] at h;split at h
  .rename_i v fr' H' U;refine wpSIn_seq (qdf p q fn fuel c (Bool.and_eq_true_iff.1 b).1 H G w md u fr a _ F n _ i cs k g j e m U (λL D A w1 r=>?_));obtain ⟨M,rfl,N,E,O,C,R⟩:=r;cases C;exact qdf p q fn fuel d (Bool.and_eq_true_iff.1 b).2 H' N w1 v M fr' D x F n Q i cs k g E.sim O R h (λW X cs2 w2 r=>o _ _ _ _ (r.trans E (u:=i.mode)))
  .rename_i y I;refine wpSIn_seq (qdf p q fn fuel c (Bool.and_eq_true_iff.1 b).1 H G w md u fr a _ F n _ i cs k g j e m h (λL D A w1 r=>?_));obtain ⟨ex,v,fr',H'⟩:=x;cases ex with
   | normal=>exact (I _ _ _ h).elim
   | _=>
    have S:=o L D A w1 r;obtain ⟨M,rfl,N,E,O,C,R⟩:=r
    first
     | (cases C;exact S)
     | (obtain ⟨V,rfl,_⟩:=C;exact S)
 | .cond c x y,b,H,G,w,md,u,fr,a,z,F,n,Q,i,cs,k,g,j,e,m,h,o=>by
  simp only [qai] at h;split at h
  .rename_i J;have B:=qq j e J;simp only [Rel] at B;exact wpSIn_cond B (qdf p q fn fuel x (Bool.and_eq_true_iff.1 b).1 H G w md u fr a z F n Q i cs k g j e m h o)
  .rename_i J;have B:=qq j e J;simp only [Rel] at B;exact wpSIn_cond B (qdf p q fn fuel y (Bool.and_eq_true_iff.1 b).2 H G w md u fr a z F n Q i cs k g j e m h o)
  .cases h
 | .skip,b,H,G,w,md,u,fr,a,x,F,n,Q,i,cs,k,g,j,e,m,h,o=>qac p q fn fuel _ b H G w md u fr a x F n Q i cs k g j e m h o
 | .label l,b,H,G,w,md,u,fr,a,x,F,n,Q,i,cs,k,g,j,e,m,h,o=>qac p q fn fuel _ b H G w md u fr a x F n Q i cs k g j e m h o
 | .exit id,b,H,G,w,md,u,fr,a,x,F,n,Q,i,cs,k,g,j,e,m,h,o=>qac p q fn fuel _ b H G w md u fr a x F n Q i cs k g j e m h o
 | .goto l,b,H,G,w,md,u,fr,a,x,F,n,Q,i,cs,k,g,j,e,m,h,o=>qac p q fn fuel _ b H G w md u fr a x F n Q i cs k g j e m h o
 | .ret,b,H,G,w,md,u,fr,a,x,F,n,Q,i,cs,k,g,j,e,m,h,o=>qac p q fn fuel _ b H G w md u fr a x F n Q i cs k g j e m h o
 | .block id c,b,H,G,w,md,u,fr,a,x,F,n,Q,i,cs,k,g,j,e,m,h,o=>qac p q fn fuel _ b H G w md u fr a x F n Q i cs k g j e m h o
 | .loop c,b,H,G,w,md,u,fr,a,x,F,n,Q,i,cs,k,g,j,e,m,h,o=>qac p q fn fuel _ b H G w md u fr a x F n Q i cs k g j e m h o
 | .scope c,b,H,G,w,md,u,fr,a,x,F,n,Q,i,cs,k,g,j,e,m,h,o=>qac p q fn fuel _ b H G w md u fr a x F n Q i cs k g j e m h o
 | .region id ops T,b,H,G,w,md,u,fr,a,x,F,n,Q,i,cs,k,g,j,e,m,h,o=>qac p q fn fuel _ b H G w md u fr a x F n Q i cs k g j e m h o
 | .rangeFunc f ps Y body,b,H,G,w,md,u,fr,a,x,F,n,Q,i,cs,k,g,j,e,m,h,o=>qac p q fn fuel _ b H G w md u fr a x F n Q i cs k g j e m h o
 | .refuse s,b,H,G,w,md,u,fr,a,x,F,n,Q,i,cs,k,g,j,e,m,h,o=>qac p q fn fuel _ b H G w md u fr a x F n Q i cs k g j e m h o
end
end Go.E2
/- E2: CALLS: what E2 makes of a function the model makes of it. -/
namespace Go.E2
open Go
section
variable {P:Program} {sp:Nat->Option (List V->Heap->Option (CR×Heap))} {H:Heap} {G:qj} {w:World} {fr:Fr} {a:Act}
def zke (P:Program):Prop:=
 ∀ f fn args v,P.funcs[f]? = some fn->fn.body=none->zd8 (qu9 fn.name) args=some v->∀ G w (a:Array Value),qn G w args a.toList->
  ∃ x w',(callFunc f a).run P w=.ok (.value x) w'/\w'.heap=w.heap/\(w'.os=w.os/\w'.output=w.output)/\Rel G w v x
def je (P:Program) (f:Nat) (s:List V->Heap->Option (CR×Heap)):Prop:=
 ∀ args H r H',s args H=some (r,H')->∀ G w a,Sim H G w->qn G w args a.toList->∃ fn c,P.funcs[f]? = some fn/\(fn.name == "runtime.NumGoroutine")=false/\fn.body=some c/\
  ∀ F n,qeu F->CallsIn F n P f a w λe w'=>∃ b,Step H G w H' b w'/\qio b w' r e
def q6s (tmps:Array Value):ResultVar->Sem Value
 | .tmp t=>pure (tmps.getD t undef)
 | .cell a t=>do loadVar t (<-asAddr (tmps.getD a undef))
theorem qkp (b:Sim H G w) (e:SimFr G w fr a):∀ (rs:List ResultVar) (vs:List V),zv (qw P sp) fr H rs=some vs->∃ l,(rs.mapM (q6s a.tmps)).run P w=.ok l w/\qn G w vs l
 | [],vs,h=>by
  simp only [zv,zS] at h;subst h;exact ⟨[],by simp,qn.nil⟩
 | .tmp t::rs,vs,h=>by
  simp only [zv,zI,zM] at h;obtain ⟨v,c,us,d,rfl⟩:=h;obtain ⟨l,f,g⟩:=qkp b e rs us d;exact ⟨_::l,by simp [List.mapM_cons,q6s,f],qn.cons (qlg e c) g⟩
 | .cell x t::rs,vs,h=>by
  simp only [zv,qw,zI,zM] at h;obtain ⟨ti,i,p,j,v,c,us,d,rfl⟩:=h;obtain ⟨l,f,g⟩:=qkp b e rs us d;obtain ⟨y,ad,k,m,n⟩:=qjb b i (qlg e j) c;refine ⟨y::l,?_,qn.cons n g⟩;simp [List.mapM_cons,q6s,f,k,asAddr,m]
theorem qw0 (c:Sim H G w) (e:SimFr G w fr a) {fn:Func} {vs:List V} (h:zv (qw P sp) fr H fn.results.toList=some vs) :
  ∃ v,(results fn a.tmps).run P w=.ok v w/\Rel G w (oneOf vs) v:=by
 obtain ⟨l,d,b⟩:=qkp c e _ _ h;have f:(fn.results.mapM (q6s a.tmps)).run P w=.ok l.toArray w:=by
  rw [Array.mapM_eq_mapM_toList];simp only [Sem.run_map,d,Result.andThen_ok]
 have g:results fn a.tmps=(do
   let vs <-fn.results.mapM (q6s a.tmps)
   pure (if h:vs.size=1 then vs[0] else .tuple vs)):=rfl
 rw [g];simp only [Sem.run_bind,f,Result.andThen_ok,Sem.run_pure];refine ⟨_,rfl,?_⟩
 match vs,b with
 | [],b=>
  subst b;exact ⟨_,rfl,qn.nil⟩
 | [v],b=>
  obtain ⟨x,k,rfl,i,rfl⟩:=b;exact i
 | u::v::vs,b=>
  have j:=b.length;refine ⟨l.toArray,?_,b⟩;rw [dif_neg (by simp at j ⊢;omega)]
theorem qu8 {args:List V} {a:Array Value} (h:qn G w args a.toList) (k:Nat):SimFr G w {tmps:=qbm args,n:=max args.length k,defers:=[]} {tmps:=a++Array.replicate (k-a.size) undef,defers:=[]}:=by
 have d:=h.length;simp only [Array.length_toList] at d;refine ⟨λi v c=>?_,?_,by simp [qan]⟩
 .simp only [qbm,Tree.qi3] at c;obtain ⟨x,b,e⟩:=h.get c;have:(a++Array.replicate (k-a.size) undef).getD i undef=x:=by
   rw [Array.getElem?_toList] at b;have hi:i<a.size:=by rw [Array.getElem?_eq_some_iff] at b;exact b.1
   rw [Array.getD_eq_getD_getElem?,Array.getElem?_append_left hi,b];rfl
  rw [this];exact e
 .grind
theorem qxg {call:Call} (S:qdx P call) (T:qts P sp call) (k:∀ (f:Nat) (fn:Func) (c:Code),P.funcs[f]? = some fn->fn.body=some c->codeOk c=true) (fuel:Nat) {F:Fence} (M:qeu F) (E:F.round=none) {d:D} {rd:Deferred} {md l:Md} {u:FrameMode} {H':Heap}
  (U:Sim H G w) (g:qws G w d rd) (hm:qf2 G w md u) (h:qf4 (qw P sp) call fuel d md H=some (l,H')) :
  ∃ V cap f args,rd.target=.fn V cap/\(invoke rd.target rd.args).run P w=.ok (.enter f args) w/\∀ (n:Nat) (R:Ending->FrameMode->World->Prop),(∀ v r w' A,Step H G w H' A w'->qf2 A w' l r->R (.returned v) r w')->CallsDIn F n P f args u w R:=by
 obtain ⟨W,cap,N,I,X,Y⟩:=g;unfold qf4 at h;split at h
 .rename_i f s;rw [s] at I;simp only [qkx] at I;subst I;simp only [zI] at h;obtain ⟨fi,a,h⟩:=h;simp only [qw,funcOf] at a;split at a
  .rename_i fn m;rw [cond_eq_ite] at a;split at a
   .cases a
   .rename_i o;have j:(fn.name == "runtime.NumGoroutine")=false:=by simpa using o
    split at a
    .rename_i c b;cases a;simp only [zI] at h;obtain ⟨x,Z,h⟩:=h;have p:qn G w (d.args++d.captured) (rd.args++cap).toList:=by rw [Array.toList_append];exact Y.append X
     refine ⟨.func f,cap,f,rd.args++cap,N,?_,λn R hR=>?_⟩
     .rw [N];have h0:(invoke (.fn (.func f) cap) rd.args).run P w=(callFunc f (rd.args++cap)).run P w:=rfl;rw [h0,qau m j b]
     .refine callsDIn_of_wpSIn m b (M.1 f) (λB cs hu=>?_);subst hu;refine qdf S T f fuel c (k f fn c m b) H G w md B.mode _ _ x F n _ B cs M E U (qu8 p fn.ntmps) hm Z (λe a' a0 w' hp=>?_);obtain ⟨r,rfl,A,O,Q,C,s4⟩:=hp;obtain ⟨ex,J,t,H1⟩:=x;have fin:∀ vs,t.defers=[]->zv (qw P sp) t H1 fn.results.toList=some vs->J=l->H1=H'->bodyPostS P fn B cs R .normal a' ({B with mode:=r}::cs) w':=by
       intro vs K i y z;subst y;subst z;obtain ⟨v,b1,b2⟩:=qw0 O.sim Q i;have g:=Q.dfr;simp only at g;rw [K] at g;exact ⟨g,r,rfl,v,b1,hR v r w' A O s4⟩
      simp only at h;split at h
      .rename_i L q;simp only [zM,zP] at h;obtain ⟨vs,i,y,z⟩:=h;simp only [qpt] at C;subst C;exact fin vs q i y z
      .rename_i L q;simp only [zM,zP] at h;obtain ⟨vs,i,y,z⟩:=h;simp only [qpt] at C;subst C;exact fin vs q i y z
      .cases h
    .cases a;cases h
  .cases a
 .cases h
theorem qnq {call:Call} (A:qdx P call) (B:qts P sp call) (e:∀ (f:Nat) (fn:Func) (c:Code),P.funcs[f]? = some fn->fn.body=some c->codeOk c=true) (fuel:Nat) {F:Fence} {n:Nat} (s:qeu F) (i:F.round=none) {fn:Func} {tmps:Array Value} {R:Ending->World->Prop} {t:Md} {H':Heap}:∀ (ds:List Dfr) (l:List Deferred) (H:Heap) (G:qj) (w:World) (md:Md) (u:FrameMode),Sim H G w->qan G w ds l->qf2 G w md u->leave (qw P sp) call fuel ds md H=some (t,H')->
  (∀ w' q r,Step H G w H' q w'->qf2 q w' t r->LeavesInM F n P fn tmps R [] r w')->LeavesInM F n P fn tmps R l u w
 | [],l,H,G,w,md,u,j,a,k,h,y=>by
  simp only [qan] at a;subst a;simp only [leave,zS,zP] at h;obtain ⟨rfl,rfl⟩:=h;exact y w G u (Step.refl j) k
 | .call d::ds,l,H,G,w,md,u,j,a,k,h,y=>by
  simp only [qan] at a;obtain ⟨x,C,rfl,D,Q⟩:=a;simp only [leave,zI] at h;obtain ⟨⟨E,H1⟩,S,h⟩:=h;obtain ⟨T,cap,f,args,U,z,o⟩:=qxg A B e fuel s i j Q k S;refine ⟨k.zfb,.inr ⟨by rw [s.2.1];simp,T,cap,f,args,U,z,λg _=>s.1 g,o (n-1) _ (λv r w' q st p=>?_)⟩⟩;exact qnq A B e fuel s i ds C H1 q w' (q39 E) (Go.settle r) st.sim (D.ext st.ext) p.settle h (λw2 G2 V st2 I=>y w2 G2 V (st.trans st2) I)
 | .mark nm::ds,l,H,G,w,md,u,j,a,k,h,y=>by
  simp only [qan] at a;obtain ⟨x,C,rfl,D,b,sh,m,J,rfl⟩:=a;simp only [leave] at h;split at h
  .rename_i O;simp only [zI] at h;obtain ⟨H1,K,h⟩:=h;obtain ⟨W,rfl⟩:=qgn K;have L:=j.obj nm _ (j.lt _ _ _ _ _ J).2 O;have M:=(L 0 b sh m J).2;have st:=j.setObj .gone O J W (.deferred none) M (by simp only [World.shape?,M]) (λ_=>trivial);refine ⟨k.zfb,.inl ⟨b,_,rfl,?_,qnq A B e fuel s i ds C _ G _ md u st.sim (D.ext st.ext) (k.ext st.ext) h (λw' q r N p=>y w' q r (st.trans N) p)⟩⟩;simp only [Instr.takeDeferred,Sem.run_bind];simp [getObj,setObj,Sem.run,M,qmw]
  .cases h
theorem qc9 {ln:Nat}:∀ (ps:List Tmp) (args:List V) (t c:Tree V) (b:Array Value) (a:List Value),qzk G w t b->b.size=ln->qn G w args a->qb1 ln ps args t=some c->
  a.length=ps.length/\qzk G w c ((ps.zip a).foldl (λtmps (x:Tmp×Value)=>tmps.setIfInBounds x.1 x.2) b)/\((ps.zip a).foldl (λtmps (x:Tmp×Value)=>tmps.setIfInBounds x.1 x.2) b).size=ln
 | [],[],t,c,b,a,f,e,d,h=>by
  simp only [qn] at d;subst d;simp only [qb1,zS] at h;subst h;exact ⟨rfl,f,e⟩
 | [],_::_,t,c,b,a,f,e,d,h=>by simp [qb1] at h
 | _::_,[],t,c,b,a,f,e,d,h=>by simp [qb1] at h
 | p::ps,v::args,t,c,b,a,f,e,d,h=>by
  simp only [qn] at d;obtain ⟨y,i,rfl,j,k⟩:=d;simp only [qb1,cond_eq_ite,Nat.blt_eq] at h;split at h
  .rename_i l;have m:SimFr G w {tmps:=t,n:=ln,defers:=[]} {tmps:=b,defers:=[]}:=⟨f,e,by simp [qan]⟩;have g:=(m.put (some p) j).tmps;simp only [Fr.put,Act.put,cond_eq_ite,Nat.blt_eq,l,if_true] at g;obtain ⟨o,q,r⟩:=qc9 ps args (t.set p v) c (b.setIfInBounds p y) i g (by simpa using e) k h;exact ⟨by simp [o],q,r⟩
  .cases h
theorem qiy (e:Sim H G w) {l b sh n:Nat} (f:G l 0=some (b,sh,n)) {jump:Option Code} {r:CR} {H':Heap} (h:qeb H l jump=some (r,H')) :
  ∃ v w',(Instr.endRound b jump).run P w=.ok v w'/\Step H G w H' G w'/\qio G w' r (.returned v):=by
 unfold qeb at h;split at h
 .rename_i st c lt ln j k m o g;simp only [zM,zP] at h;obtain ⟨H1,i,rfl,rfl⟩:=h;obtain ⟨L,d,_,_,a⟩:=e.q38 g f i;refine ⟨.bool jump.isNone,_,?_,a,⟨_,rfl,by simp only [Rel]⟩⟩;simp only [Instr.endRound,Sem.run_bind,run_getLoop d,Result.andThen_ok,run_setObj_loop d,Sem.run_pure]
 .cases h
theorem qtu (e:Sim H G w) {l b sh n:Nat} (f:G l 0=some (b,sh,n)) {H':Heap} (h:qll H l=some H') :
  ∃ w',(Instr.beginRound b).run P w=.ok () w'/\Step H G w H' G w':=by
 unfold qll at h;split at h
 .rename_i c lt ln k m o p g;obtain ⟨L,d,i,j,a⟩:=e.q38 g f h;refine ⟨_,?_,j ▸ a⟩;simp only [Instr.beginRound,Sem.run_bind,run_getLoop d,Result.andThen_ok,run_setObj_loop d,i,Sem.run_pure]
 .cases h
theorem qjj (fr:Fr) (H:Heap):∀ (rs:List ResultVar),zv (qw P sp) {fr with defers:=[]} H rs=zv (qw P sp) fr H rs
 | []=>rfl
 | .tmp t::rs=>by simp only [zv,qjj fr H rs];rfl
 | .cell x t::rs=>by simp only [zv,qjj fr H rs];rfl
theorem qz7.ext {r:Nat} {a:qj} {w':World} (h:Ext r G w a w') {p:PE} {q:PanicEntry} (e:qz7 G w p q):qz7 a w' p q:=⟨e.1.ext h,e.2⟩
theorem qps.ext {r:Nat} {a:qj} {w':World} (h:Ext r G w a w'):∀ {l:List PE} {b:List PanicEntry},qps G w l b->qps a w' l b
 | [],_,e=>e
 | p::ps,_,e=>by
  obtain ⟨q,c,rfl,d,f⟩:=e;exact ⟨q,c,rfl,d.ext h,qps.ext h f⟩
theorem qa5 (hm:P.follows .mixedOrders=true) (g:zke P) (d:∀ (f:Nat) (fn:Func) (c:Code),P.funcs[f]? = some fn->fn.body=some c->codeOk c=true)
  (p:∀ f s,sp f=some s->je P f s):∀ n,qdx P (ja (qw P sp) n)
 | 0=>by intro a0 args H r H' h;simp [ja] at h
 | n+1=>by
  intro a0 args H r H' h G w t a Z ht;cases a0 with
  | round l=>
   obtain ⟨cap,b,sh,m,rfl,hg,hr⟩:=ht;simp only [ja] at h;split at h
   .rename_i st ak lt ln lp la lb ld ho;simp only [zI] at h;obtain ⟨t',a1,h⟩:=h;obtain ⟨_,L,e1,e2,e3,e4,e5,e6,e7,ab,e8,e9,db,al,dn,an,ao⟩:=Z.obj l _ (Z.lt _ _ _ _ _ hg).2 ho 0 b sh m hg;obtain ⟨q1,q2,q3⟩:=qc9 lp args lt t' L.tmps a.toList e9 e8 hr a1;have a2:(L.params.zip a).foldl (λtmps (x:Tmp×Value)=>tmps.setIfInBounds x.1 x.2) L.tmps=(lp.zip a.toList).foldl (λtmps (x:Tmp×Value)=>tmps.setIfInBounds x.1 x.2) L.tmps:=by
     rw [<-Array.foldl_toList,Array.toList_zip,e4]
    refine .inr (.inr ⟨b,L.fn,(lp.zip a.toList).foldl (λtmps (x:Tmp×Value)=>tmps.setIfInBounds x.1 x.2) L.tmps,L.assign,L.body,?_,λF k hF=>?_⟩)
    .have D:(invoke (.fn (.yield b) cap) a).run P w=(Instr.yield b a).run P w:=rfl;have ad:¬ a.size≠L.params.size:=by
      have h1:L.params.size=lp.length:=by rw [<-e4];simp
      have h2:a.size=lp.length:=by simpa using q1
      omega
     rw [D,<-a2];simp only [Instr.yield,Sem.run_bind,run_getLoop e1,Result.andThen_ok,zF ad,Sem.run_pure]
    .split at h
     .rename_i ae H1 af;simp only [zI] at h;obtain ⟨C,a3,y,a4,o⟩:=h;refine roundIn_of_wpIn (hF.1 _) ?_;rw [e5,e6];refine jl (qa5 hm g d p n) (q2k (qa5 hm g d p n) hm) 0 (n+1) la e7 (some l) H G w {tmps:=t',n:=ln,defers:=[]} _ _ (F.inRound b) k _ (hF.inRound b) ⟨b,sh,m,hg,rfl⟩ Z ⟨q2,q3,by simp [qan]⟩ af (λex a' w' hp=>?_);obtain ⟨G1,O,ag,a5⟩:=hp;simp only [qpt] at a5;subst a5;have Q:=O.ext.sub _ _ _ hg;obtain ⟨w2,ah,st2⟩:=qtu (P:=P) O.sim Q a3;refine ⟨w2,ah,?_⟩;refine jl (qa5 hm g d p n) (q2k (qa5 hm g d p n) hm) 0 (n+1) lb ab (some l) C G1 w2 ae _ _ (F.inRound b) k _ (hF.inRound b) ⟨b,sh,m,Q,rfl⟩ st2.sim (ag.ext st2.ext) a4 (λex aq ar hp=>?_);obtain ⟨G3,E,a6,q⟩:=hp;have R:=E.ext.sub _ _ _ Q;have S:=(O.trans st2).trans E;unfold qgi at o;split at o
      .rename_i T;rw [T] at q;simp only [qpt] at q;subst q;obtain ⟨v,w4,g1,g2,g3⟩:=qiy (P:=P) E.sim R o;exact ⟨v,w4,g1,G3,S.trans g2,g3⟩
      .rename_i T;rw [T] at q;simp only [qpt] at q;subst q;obtain ⟨v,w4,g1,g2,g3⟩:=qiy (P:=P) E.sim R o;exact ⟨v,w4,g1,G3,S.trans g2,g3⟩
      .rename_i id T;rw [T] at q;simp only [qpt] at q;subst q;obtain ⟨v,w4,g1,g2,g3⟩:=qiy (P:=P) E.sim R o;exact ⟨v,w4,g1,G3,S.trans g2,g3⟩
      .cases o
     .cases h
   .cases h
  | func f=>
   obtain ⟨cap,rfl,hr⟩:=ht;have U:qn G w args (a++cap).toList:=by simpa using hr
   have D:(invoke (.fn (.func f) cap) a).run P w=(callFunc f (a++cap)).run P w:=rfl;rw [D];simp only [ja] at h;split at h
   .rename_i r' B;cases h;split at B
    .rename_i s J;obtain ⟨fn,c,h1,h2,h3,h4⟩:=p f s J args H r H' B G w _ Z U;exact .inr (.inl ⟨f,a++cap,qau h1 h2 h3 _ _,h4⟩)
    .cases B
   .simp only [zI] at h;obtain ⟨fi,z,h⟩:=h;simp only [qw,funcOf] at z;split at z
    .rename_i fn K;rw [cond_eq_ite] at z;split at z
     .cases z
     .rename_i V;have M:(fn.name == "runtime.NumGoroutine")=false:=by simpa using V
      split at z
      .rename_i c i;cases z;simp only [zI] at h;obtain ⟨x,T,y,A,h⟩:=h;refine .inr (.inl ⟨f,a++cap,qau K M i _ _,λF m hF=>?_⟩);have a7:qeu {F with round:=none}:=hF;refine (CallsIn.inRound (F:={F with round:=none}) 0 (callsIn_of_wp_marks (F:={F with round:=none}) K i (hF.1 f) ?_ rfl):CallsIn F m P f (a++cap) w _);refine jl (qa5 hm g d p n) (q2k (qa5 hm g d p n) hm) f (n+1) c (d f fn c K i) none H G w _ _ x _ m _ a7 rfl Z (qu8 U fn.ntmps) T (λex a' w' hp=>?_);obtain ⟨G',st,sf,N⟩:=hp;have W:∀ md j C u,qf2 G' w' md u->leave (qw P sp) (ja (qw P sp) n) (n+1) x.2.1.defers md x.2.2=some (j,C)->y=(j,x.2.1,C)->LeavesInM {F with round:=none} m P fn a'.tmps (λe w'=>∃ G',Step H G w H' G' w'/\qio G' w' r e) a'.defers u w':=by
        intro md j C u ai X A;subst A;refine qnq (qa5 hm g d p n) (q2k (qa5 hm g d p n) hm) d (n+1) a7 rfl _ _ _ _ _ _ _ st.sim sf.dfr ai X (λw2 G2 u2 st2 Y=>?_);cases j with
        | returning=>
         simp only [qf2] at Y;subst Y;simp only [qgb,zM,zP] at h;obtain ⟨vs,aj,rfl,rfl⟩:=h;have a8:=sf.ext st2.ext;have a6:SimFr G2 w2 {x.2.1 with defers:=[]} {a' with defers:=[]}:=⟨a8.tmps,a8.n,by simp [qan]⟩;have a9:zv (qw P sp) {x.2.1 with defers:=[]} C fn.results.toList=some vs:=by rw [<-aj];exact qjj _ _ _
         obtain ⟨v,b1,b2⟩:=qw0 st2.sim a6 a9;exact ⟨v,b1,G2,st.trans st2,v,rfl,b2⟩
        | panicking v=>
         obtain ⟨rv,rfl,hv⟩:=Y;simp only [qgb,zS,zP] at h;obtain ⟨rfl,rfl⟩:=h;exact ⟨G2,st.trans st2,_,rfl,by simp only [qps,qz7];exact ⟨_,_,rfl,⟨hv,rfl,rfl⟩,rfl⟩⟩
        | recovered v=>simp [qgb] at h
       unfold qhx at A;split at A
       .rename_i I;rw [I] at N;simp only [qpt] at N;subst N;simp only [zM] at A;obtain ⟨⟨j,C⟩,X,A⟩:=A;exact W .returning j C .returning rfl X A.symm
       .rename_i I;rw [I] at N;simp only [qpt] at N;subst N;simp only [zM] at A;obtain ⟨⟨j,C⟩,X,A⟩:=A;exact W .returning j C .returning rfl X A.symm
       .rename_i v I;rw [I] at N;obtain ⟨au,rfl,aa⟩:=N;simp only [qps,qz7] at aa;obtain ⟨⟨qv,qr,qg⟩,qs,rfl,⟨q1,q2,q3⟩,rfl⟩:=aa;simp only at q2 q3;subst q2;subst q3;simp only [zM] at A;obtain ⟨⟨j,C⟩,X,A⟩:=A;exact W (.panicking v) j C _ ⟨qv,rfl,q1⟩ X A.symm
       .cases A
      .rename_i i;cases z;simp only [zM,zP] at h;obtain ⟨v,hv,rfl,rfl⟩:=h;obtain ⟨x,w',e1,e2,eo,e3⟩:=g f fn args v K i hv G w _ U;exact .inl ⟨x,w',G,v,e1,Step.same Z e2 eo,rfl,e3.same e2⟩
    .cases z
end
end Go.E2
/- E2: FUNCTIONS WITHOUT A BODY, and what is asked of a program's tables, in one check. -/
namespace Go.E2
open Go
def zh3 (fn:Func):Bool:=
 match fn.body with
 | some c=>codeOk c
 | none=>Nat.beq (qu9 fn.name) 0 || fn.origin == "" || fn.origin == fn.name
def qme (P:Program):Bool:=P.funcs.all zh3
section
variable {P:Program}
theorem q95 (h:qme P=true) {f:Nat} {fn:Func} (a:P.funcs[f]? = some fn):zh3 fn=true:=by
 simp only [qme] at h;rw [Array.all_eq_true] at h;rw [Array.getElem?_eq_some_iff] at a;obtain ⟨hi,rfl⟩:=a;exact h f hi
theorem q9r (h:qme P=true) (f:Nat) (fn:Func) (c:Code) (a:P.funcs[f]? = some fn) (b:fn.body=some c):codeOk c=true:=by
 have:=q95 h a;simpa only [zh3,b] using this
theorem qui {fn:Func} {s:String} (b:fn.name=s) (a:fn.origin = "" ∨ fn.origin=fn.name) (h:Extern.allNextRows.lookup s=none):Extern.findNext fn=none:=by
 have c:Extern.allNextRows.lookup "" = none:=by kernel_rfl
 rcases a with a | a
 .simp only [Extern.findNext,a,b,h,c];rfl
 .simp only [Extern.findNext,a,b,h];rfl
theorem quh {fn:Func} {s:String} {e:Array Value->Sem Value} (a:fn.name=s) (b:Extern.allGenericRows.lookup s=none) (c:Extern.allTypedRows.lookup s=none) (d:Extern.allRows.lookup s=some e):Extern.find fn=some e:=by
 simp only [Extern.find,a,b,c,d];rfl
theorem qjs (c:UInt8):∀ l:List UInt8,Lib.indexByte l c=(match l.findIdx? (λb=>b == c) with | some i=>(i:Int) | none=>-1)
 | []=>rfl
 | b::l=>by
  unfold Lib.indexByte;rw [List.findIdx?_cons,qjs c l];by_cases h:(b == c)=true
  .simp [h]
  .simp only [h];cases a:l.findIdx? (λb=>b == c) with
   | none=>simp
   | some i=>
    have:¬ ((i:Int) == -1)=true:=by simp
    simp [this]
theorem zlg (h:qme P=true):zke P:=by
 intro f fn args v o r j G w d l;have m:=q95 h o;simp only [zh3,r,Bool.or_eq_true,Nat.beq_eq,beq_iff_eq] at m;unfold zd8 at j;have p:qu9 fn.name≠0:=by
  intro u;rw [u] at j;simp at j
 have q:fn.origin = "" ∨ fn.origin=fn.name:=by
  rcases m with (e | e) | e
  .exact (p e).elim
  .exact .inl e
  .exact .inr e
 have k:fn.body.isNone=true:=by rw [r];rfl
 have a:(qu9 fn.name=1->fn.name = "internal/bytealg.IndexByteString")/\(qu9 fn.name=2->fn.name = "internal/bytealg.CountString")/\(qu9 fn.name=4->fn.name = "internal/abi.NoEscape"):=by
  unfold qu9;simp only [beq_iff_eq];refine ⟨?_,?_,?_⟩<;>(intro h;repeat (split at h<;>try (first | omega | assumption)))
 split at j
 .rename_i s c n;cases j;have g:=a.1 n;simp only [qn] at l;obtain ⟨x,t,e,rfl,y,z,rfl,rfl,rfl⟩:=l;have i:d = #[.string ⟨s.toArray⟩,.int .u8 c]:=by apply Array.ext';simpa using e
  refine ⟨.int .i64 (Lib.indexByte s c.toNat.toUInt8),w,?_,rfl,⟨rfl,rfl⟩,by simp only [Rel,qjs];rfl⟩;rw [run_callFunc_extern o (by rw [g];decide) k (qui g q (by kernel_rfl)) (quh g (by kernel_rfl) (by kernel_rfl) (by kernel_rfl:Extern.allRows.lookup "internal/bytealg.IndexByteString" = some Extern.BytealgIndexByte.indexByte))];rw [i,Lib.run_indexByteString];simp only [Result.andThen_ok]
 .rename_i s c n;cases j;have g:=a.2.1 n;simp only [qn] at l;obtain ⟨x,t,e,rfl,y,z,rfl,rfl,rfl⟩:=l;have i:d = #[.string ⟨s.toArray⟩,.int .u8 c]:=by apply Array.ext';simpa using e
  refine ⟨.int .i64 (s.countP (λb=>b == c.toNat.toUInt8):Nat),w,?_,rfl,⟨rfl,rfl⟩,by simp only [Rel]⟩;rw [run_callFunc_extern o (by rw [g];decide) k (qui g q (by kernel_rfl)) (quh g (by kernel_rfl) (by kernel_rfl) (by kernel_rfl:Extern.allRows.lookup "internal/bytealg.CountString" = some Extern.BytealgCount.count))];rw [i,Lib.run_countString];simp only [Result.andThen_ok,Lib.countByte];rfl
 .rename_i x n;cases j;have g:=a.2.2 n;simp only [qn] at l;obtain ⟨y,t,e,A,rfl⟩:=l;have i:d = #[y]:=by apply Array.ext';simpa using e
  refine ⟨y,w,?_,rfl,⟨rfl,rfl⟩,A⟩;rw [run_callFunc_extern o (by rw [g];decide) k (qui g q (by kernel_rfl)) (quh g (by kernel_rfl) (by kernel_rfl) (by kernel_rfl:Extern.allRows.lookup "internal/abi.NoEscape" = some Extern.AbiNoEscape.same))];rw [i,Lib.run_noEscape];simp only [Result.andThen_ok]
 .cases j
end
end Go.E2
/- E2: FROM A RUN OF E2 TO A CONTRACT of the model's; a function without arguments that answers true. -/
namespace Go.E2
open Go Go.ChangeShapes Go.WideShapes Go.ChangeAt Go.RowKit
section
variable {P:Program} {H H':Heap} {G:qj} {W:World}
theorem qdx.calls {call:Call} (k:qdx P call) {f:FuncId} {fn:Func} {c:Code} (m:P.funcs[f]? = some fn) (g:(fn.name == "runtime.NumGoroutine")=false) (n:fn.body=some c)
  {args:List V} {a:Array Value} {r:CR} (h:call (.func f) args H=some (r,H')) (o:Sim H G W) (p:qn G W args a.toList) :
  Calls P f a W λe w'=>∃ j,Step H G W H' j w'/\qio j w' r e:=by
 have b:(invoke (.fn (.func f) #[]) a).run P W=.ok (.enter f a) W:=by
  have q:(invoke (.fn (.func f) #[]) a).run P W=(callFunc f (a++#[])).run P W:=rfl;rw [q,Array.append_empty,qau m g n]
 rcases k (.func f) args H r H' h G W (.fn (.func f) #[]) a o ⟨#[],rfl,by simpa using p⟩ with ⟨x,w',j,v,d,_⟩ | ⟨s,i,d,t⟩ | ⟨l,s,u,w,y,d,_⟩
 .rw [b] at d;cases d
 .rw [b] at d;cases d;exact callsIn_wide.1 (t Fence.wide 0 ⟨λ_=>trivial,rfl,rfl⟩)
 .rw [b] at d;cases d
def H0:Heap:={qbu:=.nil,next:=0,ro:=0,qp:=0}
def noG:qj:=λ_ _=>none
theorem Step.keptBut {w':World} {c:qj} (h:Step H0 noG W H' c w') (may:MemPlace->Prop):W.keptBut w' may:=by
 refine ⟨h.ext.out.1,h.ext.out.2,λi hi=>?_⟩;have d:=(h.ext.frg i hi (λ_ _ _ _ h=>by cases h)).1;rw [d];split
 .rename_i b a;rw [b] at a;cases a;exact ⟨rfl,rfl,rfl,λ_ _=>rfl⟩
 .rename_i b a;rw [b] at a;cases a;exact .inr ⟨rfl,rfl⟩
 .rfl
end
end Go.E2
/- E2: A LONG RUN IN PIECES, with states written out between them; the package-level variables that a row lists, as names of E2's. -/
namespace Go.E2
open Go Go.ChangeShapes
mutual
def qlq:V->V->Bool
 | .int k a,.int o b=>decide (k=o)&&decide (a=b)
 | .bool a,.bool b=>a == b
 | .str a,.str b=>a == b
 | .ptr a b c d,.ptr g i h j=>Nat.beq a g&&Nat.beq b i&&Nat.beq c h&&Nat.beq d j
 | .nilp,.nilp=>true
 | .slice a b c d e f,.slice g i h j p m=>Nat.beq a g&&Nat.beq b i&&Nat.beq c h&&Nat.beq d j&&Nat.beq e p&&(f == m)
 | .nils,.nils=>true
 | .func (.func f) a c,.func (.func m) g h=>Nat.beq f m&&qzp a g&&qzp c h
 | .nilf,.nilf=>true
 | .iface t v,.iface q r=>Nat.beq t q&&qlq v r
 | .nili,.nili=>true
 | .agg l,.agg n=>qzp l n
 | .tuple l,.tuple n=>qzp l n
 | .map a,.map b=>Nat.beq a b
 | .nilm,.nilm=>true
 | _,_=>false
def qzp:List V->List V->Bool
 | [],[]=>true
 | v::l,a::b=>qlq v a&&qzp l b
 | _,_=>false
end
mutual
theorem qjq:∀ {a b:V},qlq a b=true->a=b
 | .int k a,.int p b,h=>by simp only [qlq,zA,decide_eq_true_eq] at h;rw [h.1,h.2]
 | .bool a,.bool b,h=>by simp only [qlq,beq_iff_eq] at h;rw [h]
 | .str a,.str b,h=>by simp only [qlq,beq_iff_eq] at h;rw [h]
 | .ptr a b c d,.ptr g j i m,h=>by simp only [qlq,zA,Nat.beq_eq] at h;obtain ⟨⟨⟨rfl,rfl⟩,rfl⟩,rfl⟩:=h;rfl
 | .nilp,.nilp,_=>rfl
 | .slice a b c d e f,.slice g j i m q n,h=>by simp only [qlq,zA,Nat.beq_eq,beq_iff_eq] at h;obtain ⟨⟨⟨⟨⟨rfl,rfl⟩,rfl⟩,rfl⟩,rfl⟩,rfl⟩:=h;rfl
 | .nils,.nils,_=>rfl
 | .func (.func f) a c,.func (.func n) g i,h=>by
  simp only [qlq,zA,Nat.beq_eq] at h;rw [h.1.1,qlp h.1.2,qlp h.2]
 | .nilf,.nilf,_=>rfl
 | .iface t v,.iface r s,h=>by
  simp only [qlq,zA,Nat.beq_eq] at h;rw [h.1,qjq h.2]
 | .nili,.nili,_=>rfl
 | .agg l,.agg o,h=>by simp only [qlq] at h;rw [qlp h]
 | .tuple l,.tuple o,h=>by simp only [qlq] at h;rw [qlp h]
 | .map a,.map b,h=>by simp only [qlq,Nat.beq_eq] at h;rw [h]
 | .nilm,.nilm,_=>rfl
theorem qlp:∀ {a b:List V},qzp a b=true->a=b
 | [],[],_=>rfl
 | v::l,c::d,h=>by
  simp only [qzp,zA] at h;rw [qjq h.1,qlp h.2]
end
def zhy:O->O->Bool
 | .row c e g f z x,.row a b d h i j=>qzp c a&&Nat.beq e b&&Nat.beq g d&&Nat.beq f h&&Nat.beq z i&&(x == j)
 | .siter s p,.siter k l=>(s == k)&&Nat.beq p l
 | _,_=>false
theorem q9t {a b:O} (h:zhy a b=true):a=b:=by
 unfold zhy at h;split at h
 .simp only [zA,Nat.beq_eq,beq_iff_eq] at h;obtain ⟨⟨⟨⟨⟨c,rfl⟩,rfl⟩,rfl⟩,rfl⟩,rfl⟩:=h;rw [qlp c]
 .simp only [zA,Nat.beq_eq,beq_iff_eq] at h;obtain ⟨rfl,rfl⟩:=h;rfl
 .cases h
def qer {α:Type}:List (Nat×α)->Tree α
 | []=>.nil
 | (k,v)::l=>(qer l).set k v
theorem qce {α:Type}:∀ (l:List (Nat×α)) (k:Nat) (v:α),(qer l).get k=some v->(k,v) ∈ l
 | [],k,v,h=>by simp [qer,Tree.get] at h
 | (b,c)::l,k,v,h=>by
  simp only [qer,Tree.zn] at h;by_cases a:k=b
  .rw [zT a] at h;cases h;rw [a];exact zC
  .rw [zF a] at h;exact zG _ (qce l k v h)
structure Fact where
 f:Nat
 args:List V
 pre:List (Nat×O)
 next:Nat
 ro:Nat
 qp:Nat
 ret:V
 post:List (Nat×O)
 next':Nat
def Fact.heap (F:Fact):Heap:={qbu:=qer F.pre,next:=F.next,ro:=F.ro,qp:=F.qp}
def qx7 (H:Heap) (l:List (Nat×O)):Bool:=
 l.all λx=>match H.get x.1 with
  | some o=>zhy o x.2
  | none=>false
theorem holds_of {H:Heap} {l:List (Nat×O)} (h:qx7 H l=true) {k:Nat} {o:O} (a:(k,o) ∈ l):H.get k=some o:=by
 have:=List.all_eq_true.1 h (k,o) a;split at this
 .rename_i u b;rw [b,q9t this]
 .cases this
def Fact.ok (F:Fact) (E:Env) (n:Nat):Bool:=
 match ja E n (.func F.f) F.args F.heap with
 | some (.ret v,H)=>qlq v F.ret&&Nat.beq H.next F.next'&&Nat.ble F.next F.next'&&qx7 H F.post
 | _=>false
def Fact.dels (F:Fact):List Nat:=(F.pre.map (·.1)).filter (λk=>Nat.ble F.ro k)++List.range' F.next (F.next'-F.next)
def Fact.try (F:Fact) (args:List V) (H:Heap):Option (CR×Heap):=
 match H with
 | ⟨t,k,r,g⟩=>bif qzp args F.args&&Nat.beq k F.next&&Nat.beq r F.ro&&Nat.beq g F.qp&&qx7 ⟨t,k,r,g⟩ F.pre then
   some (.ret F.ret,⟨kl (qer F.post) F.dels t,F.next',r,g⟩) else none
section
variable {P:Program} {sp:Nat->Option (List V->Heap->Option (CR×Heap))} {n:Nat}
theorem Fact.step {F:Fact} {H H1:Heap} {G v:qj} {w w':World} (l:Sim H G w) (t:H.next=F.next) (C:H.ro=F.ro) (L:H.qp=F.qp) (i:qx7 H F.pre=true) (st:Step F.heap G w H1 v w') (D:H1.next=F.next') (hle:F.next<=F.next')
  (n:qx7 H1 F.post=true):Step H G w {H with qbu:=kl (qer F.post) F.dels H.qbu,next:=F.next'} v w':=by
 have d:∀ nm,({H with qbu:=kl (qer F.post) F.dels H.qbu,next:=F.next'}:Heap).get nm=if nm ∈ F.dels then (qer F.post).get nm else H.get nm:=λnm=>jz _ _ _ _
 have E:∀ nm o,F.heap.get nm=some o->H.get nm=some o:=λnm o h=>holds_of i (qce _ _ _ h);have q:∀ nm,F.ro<=nm->nm<F.next->nm ∉ F.dels->F.heap.get nm=none:=by
  intro nm j _ a;cases I:F.heap.get nm with
  | none=>rfl
  | some o=>
   exfalso;apply a;refine List.mem_append_left _ (List.mem_filter.2 ⟨?_,by simpa using j⟩);exact List.mem_map.2 ⟨(nm,o),qce _ _ _ I,rfl⟩
 have r:∀ nm,nm<F.ro->nm ∉ F.dels:=by
  intro nm j a;rcases List.mem_append.1 a with a | a
  .have:=(List.mem_filter.1 a).2;rw [Nat.ble_eq] at this;omega
  .have:=(List.mem_range'_1.1 a).1;have:=l.ro;omega
 have e:Ext H.ro G w v w':=by
  have h:=st.ext;rw [show F.heap.ro=H.ro from C.symm] at h;exact h
 refine ⟨e,⟨λnm g b sh m p=>?_,st.sim.inj,λnm o u k=>?_,?_,?_,λg o p k=>?_⟩,by simp only;rw [t];exact hle,rfl,rfl,λnm j=>?_,λnm g x s j=>st.newG nm g x s (show nm<F.ro by rw [<-C];exact j),λnm u c=>?_⟩
 .have:=st.sim.lt nm g b sh m p;rw [D] at this;exact this
 .rw [d] at k;split at k
  .have:=holds_of n (qce _ _ _ k);exact st.sim.obj nm o (by rw [D];exact u) this
  .rename_i a;by_cases f:nm<F.next
   .by_cases j:nm<F.ro
    .have y:=l.obj nm o (by rw [t];exact f) k;refine y.ext e (λg x s=>st.newG nm g x s j) (λg b sh m p=>st.ext.ro nm g b sh m j p)
    .obtain ⟨_,z,A⟩:=st.frame nm f (q nm (by omega) f a);exact (l.obj nm o (by rw [t];exact f) k).ext e A z
   .exfalso;apply a;refine List.mem_append_right _ (List.mem_range'_1.2 ⟨by omega,?_⟩);simp only at u;omega
 .simp only;have:=l.ro;omega
 .exact l.qp
 .simp only at p;rw [d,zF (r g (by have:=l.qp;omega))] at k;obtain ⟨m,J⟩:=l.globs g o p k;exact ⟨m,st.ext.sub _ _ _ J⟩
 .simp_all
 .have B:nm<F.next:=by rw [<-t];exact u
  have K:F.heap.get nm=none:=by
   cases I:F.heap.get nm with
   | none=>rfl
   | some o=>simp_all
  obtain ⟨_,z,A⟩:=st.frame nm B K;refine ⟨?_,z,A⟩;rw [d];split
  .rename_i a;rcases List.mem_append.1 a with a | a
   .obtain ⟨x,s,rfl⟩:=List.mem_map.1 (List.mem_filter.1 a).1;rw [holds_of i (show (x.1,x.2) ∈ F.pre from s)] at c;cases c
   .grind
  .exact c
theorem Ext.keptBut {r:Nat} {G c:qj} {W w':World} (h:Ext r G W c w') (d:∀ nm g x,G nm g=some x->nm<r) (may:MemPlace->Prop):W.keptBut w' may:=by
 refine ⟨h.out.1,h.out.2,λi hi=>?_⟩;have e:w'.heap[i]? = W.heap[i]?:=by
  by_cases a:qh5 G i
  .exact (h.frg i hi a).1
  .simp only [qh5,Classical.not_forall,Classical.not_not] at a;obtain ⟨nm,g,sh,m,b⟩:=a;exact h.ro nm g i sh m (d _ _ _ b) b
 rw [e];split
 .simp_all
 .simp_all
 .rfl
end
def qrt (P:Program):List Field->Nat->Nat->Bool
 | [],o,a=>Nat.beq o a
 | f::b,o,a=>Nat.beq f.offset o&&qrt P b (o+P.cellsOf f.type) a
def qhz (P:Program):Nat->TypeId->DataW Unit->Option (List Value)
 | 0,_,_=>none
 | n+1,t,d=>match P.underlying t,d with
  | some .bool,.lit (.bool b)=>some [.bool b]
  | some (.int _),.lit (.int k i)=>some [.int k i]
  | some .string,.lit (.string s)=>some [.string ⟨s.toArray⟩]
  | some (.struct a),.agg ds=>bif qrt P a.toList 0 (P.cellsOf t)&&Nat.beq a.toList.length ds.length then ((a.toList.zip ds).mapM λx=>qhz P n x.1.type x.2).map List.flatten else none
  | some (.array m e),.agg ds=>bif Nat.beq (P.cellsOf t) (m * P.cellsOf e)&&Nat.beq ds.length m then (ds.mapM (qhz P n e)).map List.flatten else none
  | _,_=>none
section
variable {P:Program} {w:World} {base:Nat} {spare:Nat->Bool} {held:Bool}
theorem qva {fuel n:Nat} {cs:List Value} (q:∀ t cs d p vs,DataW.trod (λ_=>()) P w base spare held fuel t cs=some (d,p)->qhz P n t d=some vs->cs=vs) {e:Nat} (s:cs.length=e) :
  ∀ (c:List Field) (o:Nat) (ds:List (DataW Unit)) (j:List (DataW Unit×List MemPlace)) (a:List (List Value)),qrt P c o e=true->c.length=ds.length->
  (c.mapM λf=>DataW.trod (λ_=>()) P w base spare held fuel f.type ((cs.drop f.offset).take (P.cellsOf f.type)))=some j->j.map (·.1)=ds->((c.zip ds).mapM λx=>qhz P n x.1.type x.2)=some a->cs.drop o=a.flatten
 | [],o,ds,j,a,g,b,k,l,h=>by
  simp only [qrt,Nat.beq_eq] at g;simp only [List.zip_nil_left,List.mapM_nil,Option.pure_def,zS] at h;subst h;rw [List.drop_of_length_le (by omega)];rfl
 | f::c,o,ds,j,a,g,b,k,l,h=>by
  simp only [qrt,zA,Nat.beq_eq] at g;simp only [List.mapM_cons,Option.bind_eq_bind,zI,Option.pure_def,zS] at k;obtain ⟨⟨d,p⟩,u,m,v,rfl⟩:=k;simp only [List.map_cons] at l;subst l;simp only [List.zip_cons_cons,List.mapM_cons,Option.bind_eq_bind,zI,Option.pure_def,zS] at h;obtain ⟨vs,y,i,z,rfl⟩:=h;have r:=q _ _ _ _ _ u y;have A:=qva q s c (o+P.cellsOf f.type) _ m i g.2 (by simpa using b) v rfl z;rw [g.1] at r;rw [List.flatten_cons,<-r,<-A,<-List.drop_drop,List.take_append_drop]
theorem qxk {fuel n:Nat} {cs:List Value} {e:TypeId} (q:∀ t cs d p vs,DataW.trod (λ_=>()) P w base spare held fuel t cs=some (d,p)->qhz P n t d=some vs->cs=vs) :
  ∀ (l:List Nat) (o:Nat) (ds:List (DataW Unit)) (h:List (DataW Unit×List MemPlace)) (b:List (List Value)),l=List.range' o ds.length->cs.length=(o+ds.length) * P.cellsOf e->
  (l.mapM λi=>DataW.trod (λ_=>()) P w base spare held fuel e ((cs.drop (i * P.cellsOf e)).take (P.cellsOf e)))=some h->h.map (·.1)=ds->(ds.mapM (qhz P n e))=some b->cs.drop (o * P.cellsOf e)=b.flatten
 | [],o,ds,h,b,c,a,j,k,f=>by
  have:ds=[]:=by
   cases ds with
   | nil=>rfl
   | cons d ds=>simp_all
  subst this;simp only [List.mapM_nil,Option.pure_def,zS] at f;subst f;rw [List.drop_of_length_le (by rw [a];simp)];rfl
 | i::l,o,ds,h,b,c,a,j,k,f=>by
  simp only [List.mapM_cons,Option.bind_eq_bind,zI,Option.pure_def,zS] at j;obtain ⟨⟨d,p⟩,r,m,s,rfl⟩:=j;simp only [List.map_cons] at k;subst k;simp only [List.length_cons,List.length_map,List.range'_succ,List.cons.injEq] at c;obtain ⟨rfl,c⟩:=c;simp only [List.mapM_cons,Option.bind_eq_bind,zI,Option.pure_def,zS] at f;obtain ⟨vs,u,g,v,rfl⟩:=f;have x:=q _ _ _ _ _ r u;have y:=qxk q l (i+1) _ m g (by simpa using c) (by rw [a];congr 1;simp;omega) s rfl v;rw [List.flatten_cons,<-x,<-y,Nat.add_mul,Nat.one_mul,<-List.drop_drop,List.take_append_drop]
theorem qt4:∀ (n fuel:Nat) (t:TypeId) (cs:List Value) (d:DataW Unit) (p:List MemPlace) (vs:List Value),DataW.trod (λ_=>()) P w base spare held fuel t cs=some (d,p)->qhz P n t d=some vs->cs=vs
 | 0,_,_,_,_,_,_,_,h=>by simp [qhz] at h
 | _+1,0,_,_,_,_,_,h,_=>by simp [DataW.trod] at h
 | n+1,fuel+1,t,cs,d,p,vs,h,c=>by
  simp only [qhz] at c;split at c
  .rename_i b a;cases c
   match cs,h with
   | [],h=>simp [DataW.trod,a] at h
   | [v],h=>
    cases v<;>simp [DataW.trod,a] at h;rw [h.1]
   | v::u::l,h=>simp [DataW.trod,a] at h
  .rename_i B k i a;cases c
   match cs,h with
   | [],h=>simp [DataW.trod,a] at h
   | [v],h=>
    cases v<;>simp [DataW.trod,a] at h;obtain ⟨⟨q,_⟩,⟨g,z⟩,_⟩:=h;rw [q,g,z]
   | v::u::l,h=>simp [DataW.trod,a] at h
  .rename_i C a;cases c
   match cs,h with
   | [],h=>simp [DataW.trod,a] at h
   | [v],h=>
    cases v<;>simp [DataW.trod,a] at h;obtain ⟨_,g,_⟩:=h;rw [<-g]
   | v::u::l,h=>simp [DataW.trod,a] at h
  .rename_i A ds a;simp only [DataW.trod,a] at h;split at h
   .rename_i s;obtain ⟨x,y,r⟩:=zM.1 h;simp only [zP,DataW.agg.injEq] at r;rw [cond_eq_ite] at c;split at c
    .rename_i f;simp only [zA,Nat.beq_eq] at f;obtain ⟨j,o,rfl⟩:=zM.1 c;have:=qva (λt cs d p vs q g=>qt4 n fuel t cs d p vs q g) s A.toList 0 ds x j f.1 f.2 y r.1 o;simpa using this
    .cases c
   .cases h
  .rename_i m e ds a;simp only [DataW.trod,a] at h;split at h
   .rename_i s;obtain ⟨x,y,r⟩:=zM.1 h;simp only [zP,DataW.agg.injEq] at r;rw [cond_eq_ite] at c;split at c
    .rename_i f;simp only [zA,Nat.beq_eq] at f;obtain ⟨j,o,rfl⟩:=zM.1 c;have:=qxk (λt cs d p vs q g=>qt4 n fuel t cs d p vs q g) (List.range m) 0 ds x j (by rw [List.range_eq_range',f.2]) (by rw [s,f.1,f.2,Nat.zero_add]) y r.1 o;simpa using this
    .cases c
   .cases h
  .cases c
theorem ze9 {g n:Nat} (h:0<n):MemPlace.cell g 0 ∈ MemPlace.row ⟨g,0,none⟩ n:=by
 simp only [MemPlace.row,List.mem_map,List.mem_range];exact ⟨0,h,rfl⟩
theorem ql9:∀ {laid:List (String×DataW Unit)} {ps:List MemPlace} (_:DataW.LaidVars P w laid ps) (_:∀ b off,MemPlace.cell b off ∈ ps->∃ c t,w.heap[b]? = some (.cells c t (0,0))) {name:String} {d:DataW Unit} (_:(name,d) ∈ laid)
  {g:Nat} {t:TypeId} (_:P.globalNamed name=some g) (_:(P.globals[g]?).map (·.type)=some t) {n:Nat} {vs:List Value} (_:qhz P n t d=some vs) (_:vs≠[]),∃ o,w.heap[g]? = some (.cells vs.toArray o (0,0))
 | [],_,_,_,_,_,a,_,_,_,_,_,_,_,_=>by cases a
 | (E,F)::rest,ps,z,r,name,d,a,g,t,h,s,n,vs,u,i=>by
  obtain ⟨G,o,cs,fuel,p,q,v,x,e,A,B,rfl⟩:=z;rcases zD.1 a with j | a
  .cases j;rw [h] at v;cases v;rw [s] at x;cases x;have k:=qt4 n fuel t cs.toList _ p vs A u;simp only [World.var?,h,zB] at e;split at e
   .rename_i c C H l;cases e;have f:0<cs.size:=by
     rcases Nat.eq_zero_or_pos cs.size with f | f
     .simp_all
     .exact f
    obtain ⟨I,t3,y⟩:=r g 0 (by
     refine List.mem_append_left _ (List.mem_append_left _ ?_);exact ze9 f)
    rw [l] at y;cases y;have m:cs=vs.toArray:=by apply Array.ext';simpa using k
    rw [m] at l;exact ⟨_,l⟩
   .cases e
  .exact ql9 B (λb off D=>r b off (List.mem_append_right _ D)) a h s u i
end
end Go.E2
/- E2: FACTS WHOSE NAMES MAY BE OTHERS: what one call comes to, written out with names of its own, and asked for under whatever names. -/
namespace Go.E2
open Go
def assoc:List (Nat×Nat)->Nat->Option Nat
 | [],_=>none
 | (a,b)::l,nm=>bif Nat.beq a nm then some b else assoc l nm
theorem qfq:∀ {l:List (Nat×Nat)} {a b:Nat},assoc l a=some b->(a,b) ∈ l
 | [],a,b,h=>by simp [assoc] at h
 | (c,d)::l,a,b,h=>by
  simp only [assoc,cond_eq_ite,Nat.beq_eq] at h;split at h
  .rename_i e;cases h;rw [e];exact zC
  .exact zG _ (qfq h)
def inv:List (Nat×Nat)->Nat->Option Nat
 | [],_=>none
 | (a,b)::l,k=>bif Nat.beq b k then some a else inv l k
theorem qjt:∀ {l:List (Nat×Nat)} {a b:Nat},inv l b=some a->(a,b) ∈ l
 | [],a,b,h=>by simp [inv] at h
 | (c,d)::l,a,b,h=>by
  simp only [inv,cond_eq_ite,Nat.beq_eq] at h;split at h
  .rename_i e;cases h;rw [e];exact zC
  .exact zG _ (qjt h)
theorem qsd:∀ {l:List (Nat×Nat)} {b:Nat},inv l b=none->∀ a,(a,b) ∉ l
 | [],b,h,a,e=>by cases e
 | (c,d)::l,b,h,a,e=>by
  simp only [inv,cond_eq_ite,Nat.beq_eq] at h;split at h
  .cases h
  .rename_i f;rcases zD.1 e with g | e
   .cases g;exact f rfl
   .exact qsd h a e
def qoi:List (Nat×Nat)->Bool
 | []=>true
 | (a,b)::l=>(l.all λx=>!Nat.beq a x.1&&!Nat.beq b x.2)&&qoi l
theorem qje:∀ {l:List (Nat×Nat)},qoi l=true->∀ {a b e f:Nat},(a,b) ∈ l->(e,f) ∈ l->(a=e↔b=f)
 | [],_,a,b,e,f,h,_=>by cases h
 | (c,d)::l,i,a,b,e,f,h,k=>by
  simp only [qoi,zA,List.all_eq_true] at i;obtain ⟨m,n⟩:=i;have o:∀ x ∈ l,c≠x.1/\d≠x.2:=by
   intro x p;have:=m x p;simp only [Bool.not_eq_true'] at this;refine ⟨λj=>?_,λj=>?_⟩
   .simp_all
   .simp_all
  rcases zD.1 h with j | q
  .grind
  .rcases zD.1 k with r | g
   .grind
   .exact qje n q g
theorem qh3 {l:List (Nat×Nat)} (e:qoi l=true) {a b:Nat} (h:(a,b) ∈ l):assoc l a=some b:=by
 cases d:assoc l a with
 | none=>
  exfalso;have:∀ {l:List (Nat×Nat)},assoc l a=none->(a,b) ∉ l:=by
   intro l
   induction l with
   | nil=>simp_all
   | cons x l f=>
    intro c g;simp only [assoc,cond_eq_ite,Nat.beq_eq] at c;split at c
    .cases c
    .grind
  exact this d h
 | some i=>
  have:=qfq d;rw [(qje e this h).1 rfl]
theorem q8d {l:List (Nat×Nat)} (d:qoi l=true) {a b:Nat} (h:(a,b) ∈ l):inv l b=some a:=by
 cases c:inv l b with
 | none=>exact absurd h (qsd c a)
 | some e=>
  have:=qjt c;rw [(qje d this h).2 rfl]
mutual
def qgf (m:Nat->Option Nat):V->Option V
 | .ptr nm g off lim=>(m nm).map λk=>.ptr k g off lim
 | .slice nm g off len sz cap=>(m nm).map λk=>.slice k g off len sz cap
 | .func (.func f) a c=>(qeo m a).bind λd=>(qeo m c).map λe=>.func (.func f) d e
 | .func ..=>none
 | .iface t v=>(qgf m v).map λh=>.iface t h
 | .agg l=>(qeo m l).map .agg
 | .tuple l=>(qeo m l).map .tuple
 | .map nm=>(m nm).map .map
 | .int k n=>some (.int k n)
 | .bool b=>some (.bool b)
 | .str s=>some (.str s)
 | .nilp=>some .nilp
 | .nils=>some .nils
 | .nilf=>some .nilf
 | .nili=>some .nili
 | .nilm=>some .nilm
def qeo (m:Nat->Option Nat):List V->Option (List V)
 | []=>some []
 | v::l=>(qgf m v).bind λa=>(qeo m l).map λb=>a::b
end
def zgb (m:Nat->Option Nat):List (V×V×Nat)->Option (List (V×V×Nat))
 | []=>some []
 | (k,v,b)::l=>(qgf m k).bind λa=>(qgf m v).bind λc=>(zgb m l).map λd=>(a,c,b)::d
def q30 (m:Nat->Option Nat):O->Option O
 | .row cells e g f z x=>(qeo m cells).map λc=>.row c e g f z x
 | .map d a=>(zgb m d).map λb=>.map b a
 | _=>none
section
variable {m:Nat->Option Nat} {G1 G2:qj} {w:World}
mutual
theorem Rel.ren (hm:∀ nm k,m nm=some k->∀ g,G2 k g=G1 nm g):∀ {v b:V},qgf m v=some b->∀ {x:Value},Rel G1 w v x↔Rel G2 w b x
 | .int _ _,b,h,x | .bool _,b,h,x | .str _,b,h,x | .nilp,b,h,x | .nils,b,h,x | .nilf,b,h,x | .nili,b,h,x | .nilm,b,h,x=>by
  simp only [qgf,zS] at h;subst h;simp only [Rel]
 | .ptr nm g off lim,b,h,x=>by
  simp only [qgf,zM] at h;obtain ⟨k,n,rfl⟩:=h;simp only [Rel,hm nm k n]
 | .slice nm g off len sz cap,b,h,x=>by
  simp only [qgf,zM] at h;obtain ⟨k,n,rfl⟩:=h;simp only [Rel,hm nm k n]
 | .map nm,b,h,x=>by
  simp only [qgf,zM] at h;obtain ⟨k,n,rfl⟩:=h;simp only [Rel,hm nm k n]
 | .func fn a c,b,h,x=>by
  cases fn with
  | func f=>
   simp only [qgf,zI,zM] at h;obtain ⟨A,s,B,z,rfl⟩:=h;simp only [Rel,qkx];constructor
   .rintro ⟨j,o,p,d,e,q,r⟩;exact ⟨j,o,p,d,e,(qn.ren hm s).1 q,(qn.ren hm z).1 r⟩
   .rintro ⟨j,o,p,d,e,q,r⟩;exact ⟨j,o,p,d,e,(qn.ren hm s).2 q,(qn.ren hm z).2 r⟩
  | _=>simp [qgf] at h
 | .iface t v,b,h,x=>by
  simp only [qgf,zM] at h;obtain ⟨u,i,rfl⟩:=h;simp only [Rel];constructor
  .rintro ⟨y,d,e⟩;exact ⟨y,d,(Rel.ren hm i).1 e⟩
  .rintro ⟨y,d,e⟩;exact ⟨y,d,(Rel.ren hm i).2 e⟩
 | .agg l,b,h,x=>by
  simp only [qgf,zM] at h;obtain ⟨u,i,rfl⟩:=h;simp only [Rel];constructor
  .rintro ⟨y,d,e⟩;exact ⟨y,d,(qn.ren hm i).1 e⟩
  .rintro ⟨y,d,e⟩;exact ⟨y,d,(qn.ren hm i).2 e⟩
 | .tuple l,b,h,x=>by
  simp only [qgf,zM] at h;obtain ⟨u,i,rfl⟩:=h;simp only [Rel];constructor
  .rintro ⟨y,d,e⟩;exact ⟨y,d,(qn.ren hm i).1 e⟩
  .rintro ⟨y,d,e⟩;exact ⟨y,d,(qn.ren hm i).2 e⟩
theorem qn.ren (hm:∀ nm k,m nm=some k->∀ g,G2 k g=G1 nm g):∀ {l a:List V},qeo m l=some a->∀ {b:List Value},qn G1 w l b↔qn G2 w a b
 | [],a,h,b=>by
  simp only [qeo,zS] at h;subst h;simp only [qn]
 | v::l,a,h,b=>by
  simp only [qeo,zI,zM] at h;obtain ⟨n,i,o,j,rfl⟩:=h;simp only [qn];constructor
  .rintro ⟨x,c,d,e,f⟩;exact ⟨x,c,d,(Rel.ren hm i).1 e,(qn.ren hm j).1 f⟩
  .rintro ⟨x,c,d,e,f⟩;exact ⟨x,c,d,(Rel.ren hm i).2 e,(qn.ren hm j).2 f⟩
end
theorem zg5 {v b:V} (h:qgf m v=some b):ZS v↔ZS b:=by
 cases v with
 | slice nm g off len sz cap=>
  simp only [qgf,zM] at h;obtain ⟨k,_,rfl⟩:=h;exact ⟨λ⟨_,_,_,_,_,h⟩=>(by cases h;exact ⟨_,_,_,_,_,rfl⟩),λ⟨_,_,_,_,_,h⟩=>(by cases h;exact ⟨_,_,_,_,_,rfl⟩)⟩
 | func fn a c=>
  cases fn with
  | func f=>
   simp only [qgf,zI,zM] at h;obtain ⟨_,_,_,_,rfl⟩:=h;exact ⟨λ⟨_,_,_,_,_,h⟩=>(by cases h),λ⟨_,_,_,_,_,h⟩=>(by cases h)⟩
  | _=>simp [qgf] at h
 | _=>
  simp only [qgf,zM,zS] at h
  first
  | (subst h;exact ⟨λ⟨_,_,_,_,_,h⟩=>(by cases h),λ⟨_,_,_,_,_,h⟩=>(by cases h)⟩)
  | (obtain ⟨_,_,rfl⟩:=h;exact ⟨λ⟨_,_,_,_,_,h⟩=>(by cases h),λ⟨_,_,_,_,_,h⟩=>(by cases h)⟩)
theorem zen {v g:V} (h:qgf m v=some g):isHole v=isHole g:=by
 rw [Bool.eq_iff_iff,qq5,qq5];constructor
 .rintro ⟨u,rfl,e⟩;simp only [qgf,qeo,zM,zI] at h;obtain ⟨_,⟨i,b,_,j,rfl⟩,rfl⟩:=h;cases j;exact ⟨i,rfl,(zg5 b).1 e⟩
 .rintro ⟨u,rfl,e⟩;cases v with
  | tuple l=>
   simp only [qgf,zM,V.tuple.injEq] at h;obtain ⟨us,b,rfl⟩:=h;cases l with
   | nil=>simp [qeo] at b
   | cons x l=>
    simp only [qeo,zI,zM,List.cons.injEq] at b;obtain ⟨y,k,n,d,rfl,rfl⟩:=b;cases l with
    | nil=>exact ⟨x,rfl,(zg5 k).2 e⟩
    | cons _ _=>
     simp only [qeo,zI,zM] at d;obtain ⟨_,_,_,_,d⟩:=d;cases d
  | func fn a c=>
   cases fn with
   | func f=>
    simp only [qgf,zI,zM] at h;obtain ⟨_,_,_,_,h⟩:=h;cases h
   | _=>simp [qgf] at h
  | _=>simp [qgf] at h
theorem jd.ren (hm:∀ nm k,m nm=some k->∀ g,G2 k g=G1 nm g):∀ {l a:List V},qeo m l=some a->∀ {b:List Value},jd G1 w l b↔jd G2 w a b
 | [],a,h,b=>by
  simp only [qeo,zS] at h;subst h;simp only [jd]
 | v::l,a,h,b=>by
  simp only [qeo,zI,zM] at h;obtain ⟨n,c,o,j,rfl⟩:=h;simp only [jd,zen c];constructor
  .rintro ⟨x,d,e,f,i⟩;exact ⟨x,d,e,f.imp id (Rel.ren hm c).1,(jd.ren hm j).1 i⟩
  .rintro ⟨x,d,e,f,i⟩;exact ⟨x,d,e,f.imp id (Rel.ren hm c).2,(jd.ren hm j).2 i⟩
theorem qa2.ren (hm:∀ nm k,m nm=some k->∀ g,G2 k g=G1 nm g):∀ {l a:List (V×V×Nat)},zgb m l=some a->∀ {c:List MapEntry},qa2 G1 w l c↔qa2 G2 w a c
 | [],a,h,c=>by
  simp only [zgb,zS] at h;subst h;simp only [qa2]
 | (k,v,b)::l,a,h,c=>by
  simp only [zgb,zI,zM] at h;obtain ⟨r,o,s,p,t,q,rfl⟩:=h;simp only [qa2];constructor
  .rintro ⟨x,d,e,f,i,j,n⟩;exact ⟨x,d,e,(Rel.ren hm o).1 f,(Rel.ren hm p).1 i,j,(qa2.ren hm q).1 n⟩
  .rintro ⟨x,d,e,f,i,j,n⟩;exact ⟨x,d,e,(Rel.ren hm o).2 f,(Rel.ren hm p).2 i,j,(qa2.ren hm q).2 n⟩
theorem qvo:∀ {l a:List V},qeo m l=some a->a.length=l.length
 | [],a,h=>by simp only [qeo,zS] at h;subst h;rfl
 | v::l,a,h=>by
  simp only [qeo,zI,zM] at h;obtain ⟨c,d,e,b,rfl⟩:=h;simp [qvo b]
theorem q1n:∀ {l a:List V} (n:Nat),qeo m l=some a->qeo m (l.take n)=some (a.take n)
 | [],a,n,h=>by simp only [qeo,zS] at h;subst h;simp [qeo]
 | v::l,a,0,h=>by simp [qeo]
 | v::l,a,n+1,h=>by
  simp only [qeo,zI,zM] at h;obtain ⟨d,b,e,c,rfl⟩:=h;simp [qeo,b,q1n n c]
theorem q1m:∀ {l a:List V} (n:Nat),qeo m l=some a->qeo m (l.drop n)=some (a.drop n)
 | [],a,n,h=>by simp only [qeo,zS] at h;subst h;simp [qeo]
 | v::l,a,0,h=>by simpa using h
 | v::l,a,n+1,h=>by
  simp only [qeo,zI,zM] at h;obtain ⟨c,d,e,b,rfl⟩:=h;simpa using q1m n b
theorem qdl.ren (hm:∀ nm k,m nm=some k->∀ g,G2 k g=G1 nm g) {nm k:Nat} (l:m nm=some k) {o p:O} (h:q30 m o=some p):qdl G1 w nm o↔qdl G2 w k p:=by
 cases o with
 | row cells e q f z ex=>
  simp only [q30,zM] at h;obtain ⟨c,d,rfl⟩:=h;have a:∀ n sh,∀ {b},jd G1 w ((cells.take n).drop sh) b↔jd G2 w ((c.take n).drop sh) b:=λn sh=>jd.ren hm (q1m sh (q1n n d));simp only [qdl,hm nm k l,qvo d,a]
 | map r i=>
  simp only [q30,zM] at h;obtain ⟨c,d,rfl⟩:=h;have j:∀ {b},qa2 G1 w r b↔qa2 G2 w c b:=qa2.ren hm d;simp only [qdl,hm nm k l,j]
 | _=>simp [q30] at h
end
def q9j (ρ:List (Nat×Nat)) (a b:Nat):Option (List (Nat×Nat)):=match assoc ρ a with
 | some c=>bif Nat.beq c b then some ρ else none
 | none=>some ((a,b)::ρ)
mutual
def q3h:V->V->List (Nat×Nat)->Option (List (Nat×Nat))
 | .ptr a _ _ _,.ptr b _ _ _,ρ | .map a,.map b,ρ=>q9j ρ a b
 | .slice a _ _ n _ _,.slice b _ _ e _ _,ρ=>bif Nat.beq n e then q9j ρ a b else none
 | .int _ a,.int _ b,ρ=>bif a == b then some ρ else none
 | .bool a,.bool b,ρ=>bif a == b then some ρ else none
 | .str a,.str b,ρ=>bif a == b then some ρ else none
 | .func _ a c,.func _ f g,ρ=>match quj a f ρ with
  | some h=>quj c g h
  | none=>none
 | .iface _ v,.iface _ i,ρ=>q3h v i ρ
 | .agg l,.agg d,ρ | .tuple l,.tuple d,ρ=>quj l d ρ
 | _,_,ρ=>some ρ
def quj:List V->List V->List (Nat×Nat)->Option (List (Nat×Nat))
 | v::l,a::b,ρ=>match q3h v a ρ with
  | some c=>quj l b c
  | none=>none
 | [],[],ρ=>some ρ
 | _,_,_=>none
end
def ze7:List (V×V×Nat)->List (V×V×Nat)->List (Nat×Nat)->Option (List (Nat×Nat))
 | (k,v,_)::l,(b,c,_)::d,ρ=>match q3h k b ρ with
  | some e=>match q3h v c e with
   | some a=>ze7 l d a
   | none=>none
  | none=>none
 | [],[],ρ=>some ρ
 | _,_,_=>none
def zpm:O->O->List (Nat×Nat)->Option (List (Nat×Nat))
 | .row c _ g _ _ _,.row b _ d _ _ _,ρ=>bif Nat.beq g d then quj c b ρ else none
 | .map e _,.map a _,ρ=>ze7 e a ρ
 | _,_,_=>none
def q51 (H:Heap):List (Nat×O)->List (Nat×Nat)->Option (List (Nat×Nat))
 | [],ρ=>some ρ
 | (nm,o)::l,ρ=>match assoc ρ nm with
  | some k=>match H.get k with
   | some a=>match zpm o a ρ with
    | some b=>q51 H l b
    | none=>none
   | none=>none
  | none=>none
def zhx:List (V×V×Nat)->List (V×V×Nat)->Bool
 | [],[]=>true
 | (k,v,b)::l,(a,c,d)::e=>qlq k a&&qlq v c&&Nat.beq b d&&zhx l e
 | _,_=>false
theorem q9s:∀ {a b:List (V×V×Nat)},zhx a b=true->a=b
 | [],[],_=>rfl
 | (k,v,b)::l,(f,g,i)::j,h=>by
  simp only [zhx,zA,Nat.beq_eq] at h;obtain ⟨⟨⟨c,d⟩,rfl⟩,e⟩:=h;rw [qjq c,qjq d,q9s e]
def q5c:O->O->Bool
 | .map b c,.map a d=>zhx b a&&Nat.beq c d
 | o,e=>zhy o e
theorem q5d {a b:O} (h:q5c a b=true):a=b:=by
 unfold q5c at h;split at h
 .simp only [zA,Nat.beq_eq] at h;rw [q9s h.1,h.2]
 .exact q9t h
def q23 (m:Nat->Option Nat) (H:Heap) (l:List (Nat×O)):Bool:=
 l.all λx=>match m x.1,q30 m x.2 with
  | some k,some o=>match H.get k with
   | some a=>q5c o a
   | none=>false
  | _,_=>false
def q22 (H:Heap) (l:List (Nat×O)):Bool:=
 l.all λx=>match H.get x.1 with
  | some o=>q5c o x.2
  | none=>false
theorem zcc {H:Heap} {l:List (Nat×O)} (h:q22 H l=true) {k:Nat} {o:O} (a:(k,o) ∈ l):H.get k=some o:=by
 have:=List.all_eq_true.1 h (k,o) a;split at this
 .rename_i u b;rw [b,q5d this]
 .cases this
theorem qt9 {m:Nat->Option Nat} {H:Heap} {l:List (Nat×O)} (h:q23 m H l=true) {nm:Nat} {o:O} (b:(nm,o) ∈ l):∃ k a,m nm=some k/\q30 m o=some a/\H.get k=some a:=by
 have:=List.all_eq_true.1 h (nm,o) b;split at this
 .rename_i k a c d;split at this
  .rename_i u e;exact ⟨k,a,c,d,by rw [e,q5d this]⟩
  .cases this
 .cases this
def Fact.names (F:Fact) (ρ:List (Nat×Nat)) (next:Nat) (nm:Nat):Option Nat:=
 bif Nat.ble F.next nm then (bif Nat.blt nm F.next' then some (nm-F.next+next) else none) else assoc ρ nm
def qpb (m:Nat->Option Nat):List (Nat×O)->Option (List (Nat×O))
 | []=>some []
 | (nm,o)::l=>(m nm).bind λk=>(q30 m o).bind λa=>(qpb m l).map λb=>(k,a)::b
theorem qvp {m:Nat->Option Nat}:∀ {l b:List (Nat×O)},qpb m l=some b->∀ {k:Nat} {c:O},(k,c) ∈ b->∃ nm o,(nm,o) ∈ l/\m nm=some k/\q30 m o=some c
 | [],b,h,k,c,a=>by simp only [qpb,zS] at h;subst h;cases a
 | (nm,o)::l,b,h,k,c,a=>by
  simp only [qpb,zI,zM] at h;obtain ⟨n,d,o1,e,p,f,rfl⟩:=h;rcases zD.1 a with g | a
  .cases g;exact ⟨nm,o,zC,d,e⟩
  .obtain ⟨nm',o2,i,j⟩:=qvp f a;exact ⟨nm',o2,zG _ i,j⟩
def Fact.zsr (F:Fact) (args:List V) (H:Heap):Option (List (Nat×Nat)):=
 match quj F.args args ((F.pre.filter λx=>Nat.blt x.1 F.qp).map λx=>(x.1,x.1)) with
 | some ρ=>q51 H F.pre ρ
 | none=>none
def Fact.fits (F:Fact) (ρ:List (Nat×Nat)) (args:List V) (H:Heap):Bool:=
 (match qeo (assoc ρ) F.args with
   | some a=>qzp a args
   | none=>false)&&Nat.beq H.qp F.qp&&q23 (assoc ρ) H F.pre&&qoi ρ&&
 ρ.all λx=>Nat.blt x.1 F.next&&Nat.blt x.2 H.next&&(!Nat.blt x.1 F.qp || Nat.beq x.2 x.1)&&(!Nat.ble F.ro x.1 || Nat.ble H.ro x.2)
def Fact.qrx (F:Fact) (ρ:List (Nat×Nat)) (next:Nat):List Nat:=
 ((F.pre.filter λx=>Nat.ble F.ro x.1).filterMap λx=>assoc ρ x.1)++List.range' next (F.next'-F.next)
def Fact.qdw (F:Fact) (args:List V) (H:Heap):Option (CR×Heap):=
 match H with
 | ⟨t,n,r,g⟩=>
  match F.zsr args ⟨t,n,r,g⟩ with
  | some ρ=>bif F.fits ρ args ⟨t,n,r,g⟩ then
    (qgf (F.names ρ n) F.ret).bind λv=>(qpb (F.names ρ n) F.post).map λl=>(.ret v,⟨kl (qer l) (F.qrx ρ n) t,n+(F.next'-F.next),r,g⟩)
   else none
  | none=>none
def Fact.ok2 (F:Fact) (E:Env) (n:Nat):Bool:=
 match ja E n (.func F.f) F.args F.heap with
 | some (.ret v,H)=>qlq v F.ret&&Nat.beq H.next F.next'&&Nat.ble F.next F.next'&&Nat.ble F.ro F.next&&Nat.ble F.qp F.ro&&q22 H F.post
 | _=>false
theorem qnf {α:Type}:∀ {l:List (Nat×α)} {k:Nat} {v:α},(k,v) ∈ l->∃ b,(qer l).get k=some b
 | [],k,v,h=>by cases h
 | (c,b)::l,k,v,h=>by
  simp only [qer,Tree.zn];by_cases a:k=c
  .rw [zT a];exact ⟨_,rfl⟩
  .rw [zF a];rcases zD.1 h with d | e
   .cases d;exact absurd rfl a
   .exact qnf e
section
variable {P:Program} {sp:Nat->Option (List V->Heap->Option (CR×Heap))} {n:Nat}
def qb7 (G:qj) (ρ:List (Nat×Nat)):qj:=λnm g=>match assoc ρ nm with
 | some k=>G k g
 | none=>none
def qgy (G a:qj) (ρ:List (Nat×Nat)) (F:Fact) (next:Nat):qj:=λk g=>
 if k<next then (match inv ρ k with
  | some nm=>a nm g
  | none=>G k g) else if k-next+F.next<F.next' then a (k-next+F.next) g else none
structure Fits (F:Fact) (ρ:List (Nat×Nat)) (args:List V) (H:Heap):Prop where
 args:qeo (assoc ρ) F.args=some args
 qp:H.qp=F.qp
 pre:q23 (assoc ρ) H F.pre=true
 one:qoi ρ=true
 lt:∀ a b,(a,b) ∈ ρ->a<F.next/\b<H.next
 same:∀ a b,(a,b) ∈ ρ->a<F.qp->b=a
 ro:∀ a b,(a,b) ∈ ρ->F.ro<=a->H.ro<=b
theorem q93 {F:Fact} {ρ:List (Nat×Nat)} {args:List V} {H:Heap} (h:F.fits ρ args H=true):Fits F ρ args H:=by
 simp only [Fact.fits,zA,Nat.beq_eq,List.all_eq_true] at h;obtain ⟨⟨⟨⟨f,j⟩,k⟩,l⟩,m⟩:=h;have g:∀ a b,(a,b) ∈ ρ->(a<F.next/\b<H.next)/\(a<F.qp->b=a)/\(F.ro<=a->H.ro<=b):=by
  intro a b c;have:=m (a,b) c;simp only [Nat.blt_eq,Bool.or_eq_true,Bool.not_eq_true',Nat.beq_eq,Nat.ble_eq] at this;obtain ⟨⟨⟨n,o⟩,d⟩,e⟩:=this;refine ⟨⟨n,o⟩,λi=>?_,λi=>?_⟩
  .rcases d with d | d
   .rw [<-Bool.not_eq_true,Nat.blt_eq] at d;exact absurd i d
   .exact d
  .rcases e with e | e
   .rw [<-Bool.not_eq_true,Nat.ble_eq] at e;exact absurd i e
   .exact e
 refine ⟨?_,j,k,l,λa b c=>(g a b c).1,λa b c=>(g a b c).2.1,λa b c=>(g a b c).2.2⟩;split at f
 .rename_i u p;rw [p,qlp f]
 .cases f
theorem qd2 {G:qj} {ρ:List (Nat×Nat)} {nm g:Nat} {x:Nat×Nat×Nat} (h:qb7 G ρ nm g=some x):∃ k,(nm,k) ∈ ρ/\G k g=some x:=by
 unfold qb7 at h;split at h
 .rename_i k a;exact ⟨k,qfq a,h⟩
 .cases h
theorem q61 {F:Fact} {ρ:List (Nat×Nat)} {args:List V} {H:Heap} {G:qj} {w:World} (e:Sim H G w) (a:Fits F ρ args H) (i:F.ro<=F.next) (j:F.qp<=F.ro):Sim F.heap (qb7 G ρ) w:=by
 have d:∀ nm k,assoc ρ nm=some k->∀ g,G k g=qb7 G ρ nm g:=by
  intro nm k l g;simp only [qb7,l]
 refine ⟨λnm g b sh n h=>?_,λnm g b sh n nm' B y C h z=>?_,λnm o D p=>?_,i,j,λg o x p=>?_⟩
 .obtain ⟨k,q,r⟩:=qd2 h;exact ⟨(e.lt _ _ _ _ _ r).1,(a.lt _ _ q).1⟩
 .obtain ⟨k,q,r⟩:=qd2 h;obtain ⟨E,s,t⟩:=qd2 z;obtain ⟨c,f⟩:=e.inj _ _ _ _ _ _ _ _ _ r t;exact ⟨(qje a.one q s).2 c,f⟩
 .obtain ⟨k,u,c,f,v⟩:=qt9 a.pre (qce _ _ _ p);exact (qdl.ren d c f).2 (e.obj k u (a.lt _ _ (qfq c)).2 v)
 .obtain ⟨k,u,c,f,v⟩:=qt9 a.pre (qce _ _ _ p);have l:=a.same _ _ (qfq c) x;subst l;obtain ⟨m,A⟩:=e.globs k u (by rw [a.qp];exact x) v;exact ⟨m,by rw [<-d k k c];exact A⟩
theorem Fact.zuj {F:Fact} {ρ:List (Nat×Nat)} {args:List V} {H H1:Heap} {G q:qj} {w w':World} (s:Sim H G w) (y:Fits F ρ args H) (hle:F.next<=F.next') (st:Step F.heap (qb7 G ρ) w H1 q w') (hn:H1.next=F.next') (S:q22 H1 F.post=true)
  {l:List (Nat×O)} (hl:qpb (F.names ρ H.next) F.post=some l):Step H G w {H with qbu:=kl (qer l) (F.qrx ρ H.next) H.qbu,next:=H.next+(F.next'-F.next)} (qgy G q ρ F H.next) w'/\
   ∀ nm k,F.names ρ H.next nm=some k->∀ g,qgy G q ρ F H.next k g=q nm g:=by
 have t:∀ nm,({H with qbu:=kl (qer l) (F.qrx ρ H.next) H.qbu,next:=H.next+(F.next'-F.next)}:Heap).get nm=if nm ∈ F.qrx ρ H.next then (qer l).get nm else H.get nm:=λnm=>jz _ _ _ _
 have Y:∀ nm k,F.names ρ H.next nm=some k->∀ g,qgy G q ρ F H.next k g=q nm g:=by
  intro nm k c g;simp only [Fact.names,cond_eq_ite,Nat.ble_eq,Nat.blt_eq] at c;split at c
  .rename_i a;split at c
   .rename_i J;cases c;have e1:¬ (nm-F.next+H.next<H.next):=by omega
    have e2:nm-F.next+H.next-H.next+F.next=nm:=by omega
    simp only [qgy,zF e1,e2,zT J]
   .cases c
  .have d:=qfq c;simp only [qgy,zT (y.lt _ _ d).2,q8d y.one d]
 have Z:∀ k nm,inv ρ k=some nm->(nm,k) ∈ ρ/\∀ g,qb7 G ρ nm g=G k g:=by
  intro k nm h;have d:=qjt h;exact ⟨d,λg=>by simp only [qb7,qh3 y.one d]⟩
 have K:∀ k g b sh n,inv ρ k=none->G k g=some (b,sh,n)->qh5 (qb7 G ρ) b:=by
  intro k g b sh n c f nm' U z n' L;obtain ⟨k',r,i⟩:=qd2 L;obtain ⟨W,_⟩:=s.inj _ _ _ _ _ _ _ _ _ f i;subst W;exact qsd c _ r
 have a2:∀ k g b sh n,inv ρ k=none->G k g=some (b,sh,n)->w'.heap[b]? = w.heap[b]?:=λk g b sh n c f=>(st.ext.frg b (s.lt _ _ _ _ _ f).1 (K k g b sh n c f)).1;have E:∀ k g x,qgy G q ρ F H.next k g=some x->(k<H.next/\((∃ nm,inv ρ k=some nm/\q nm g=some x)∨(inv ρ k=none/\G k g=some x)))∨(H.next<=k/\k-H.next+F.next<F.next'/\q (k-H.next+F.next) g=some x):=by
  intro k g x h;simp only [qgy] at h;split at h
  .grind
  .simp_all
 have M:∀ k,k ∈ F.qrx ρ H.next->(∃ nm o,(nm,o) ∈ F.pre/\F.ro<=nm/\(nm,k) ∈ ρ)∨(H.next<=k/\k<H.next+(F.next'-F.next)):=by
  intro k c;rcases List.mem_append.1 c with c | c
  .obtain ⟨x,A,a3⟩:=List.mem_filterMap.1 c;obtain ⟨a4,a5⟩:=List.mem_filter.1 A;exact .inl ⟨x.1,x.2,a4,by simpa using a5,qfq a3⟩
  .simp_all
 have a6:∀ nm k o,(nm,o) ∈ F.pre->F.ro<=nm->(nm,k) ∈ ρ->k ∈ F.qrx ρ H.next:=by
  intro nm k o a J N;refine List.mem_append_left _ (List.mem_filterMap.2 ⟨(nm,o),List.mem_filter.2 ⟨a,by simpa using J⟩,qh3 y.one N⟩)
 have u:∀ k,k<H.ro->k ∉ F.qrx ρ H.next:=by
  intro k C D;rcases M k D with ⟨nm,o,a,J,N⟩ | ⟨a,_⟩
  .have:=y.ro _ _ N J;omega
  .have:=s.ro;omega
 have P:∀ k g x,G k g=some x->qgy G q ρ F H.next k g=some x:=by
  intro k g x A;have c:=(s.lt _ _ _ _ _ A).2;simp only [qgy,zT c];split
  .rename_i nm a7;exact st.ext.sub _ _ _ (by rw [(Z k nm a7).2];exact A)
  .exact A
 have T:∀ nm,F.heap.get nm=none∨∃ o,(nm,o) ∈ F.pre:=by
  intro nm;cases hq:F.heap.get nm with
  | none=>exact .inl rfl
  | some o=>exact .inr ⟨o,qce _ _ _ hq⟩
 have v:∀ k,k<H.next->k ∉ F.qrx ρ H.next->(∀ g x,qgy G q ρ F H.next k g=some x->G k g=some x)/\∀ g b sh n,G k g=some (b,sh,n)->w'.heap[b]? = w.heap[b]?:=by
  intro k c D;cases hq:inv ρ k with
  | none=>grind
  | some nm=>
   obtain ⟨d,L⟩:=Z k nm hq;have a0:∀ g,qgy G q ρ F H.next k g=q nm g:=λg=>by simp only [qgy,zT c,hq]
   rcases T nm with j | ⟨o,Q⟩
   .obtain ⟨_,i,W⟩:=st.frame nm (y.lt _ _ d).1 j;exact ⟨λg x A=>by rw [<-L];exact W g x (by rw [<-a0];exact A),λg b sh m f=>i g b sh m (by rw [L];exact f)⟩
   .by_cases C:F.ro<=nm
    .grind
    .have C:nm<F.ro:=by omega
     exact ⟨λg x A=>by rw [<-L];exact st.newG nm g x (by rw [<-a0];exact A) C,λg b sh m f=>st.ext.ro nm g b sh m C (by rw [L];exact f)⟩
 have R:Ext H.ro G w (qgy G q ρ F H.next) w':=by
  refine ⟨P,λb hb a1=>?_,st.ext.size,st.ext.shp,λk g b sh m C f=>?_,st.ext.out⟩
  .have a8:qh5 (qb7 G ρ) b:=by
    intro nm g sh m L;obtain ⟨k,_,i⟩:=qd2 L;exact a1 k g sh m i
   obtain ⟨r,i⟩:=st.ext.frg b hb a8;refine ⟨r,λk g sh m f=>?_⟩;rcases E k g _ f with ⟨_,⟨nm,_,a⟩ | ⟨_,a⟩⟩ | ⟨_,_,a⟩
   .exact i _ _ _ _ a
   .exact a1 _ _ _ _ a
   .exact i _ _ _ _ a
  .exact (v k (s.lt _ _ _ _ _ f).2 (u k C)).2 g b sh m f
 refine ⟨⟨R,⟨λk g b sh m f=>?_,λk g b sh m k' U z m' f a9=>?_,λk o c Q=>?_,?_,s.qp,λg o f Q=>?_⟩,by simp only;omega,rfl,rfl,λk C=>?_,λk g x A C=>?_,λk c j=>?_⟩,Y⟩
 .rcases E k g _ f with ⟨c,⟨nm,_,a⟩ | ⟨_,a⟩⟩ | ⟨c,aa,a⟩
  .exact ⟨(st.sim.lt _ _ _ _ _ a).1,by simp only;omega⟩
  .exact ⟨zL (s.lt _ _ _ _ _ a).1 st.ext.size,by simp only;omega⟩
  .exact ⟨(st.sim.lt _ _ _ _ _ a).1,by simp only;omega⟩
 .have p:∀ {k nm g U sh z m m'},q nm g=some (b,sh,m)->inv ρ k=none->G k U=some (b,z,m')->False:=by
   intro k nm g U sh z m m' a J N;exact (st.ext.frg b (s.lt _ _ _ _ _ N).1 (K k U b z m' J N)).2 _ _ _ _ a
  rcases E k g _ f with ⟨c,⟨nm,hi,a⟩ | ⟨hi,a⟩⟩ | ⟨c,aa,a⟩<;>rcases E k' U _ a9 with ⟨I,⟨nm',B,e⟩ | ⟨B,e⟩⟩ | ⟨I,ae,e⟩
  .obtain ⟨r,i⟩:=st.sim.inj _ _ _ _ _ _ _ _ _ a e;exact ⟨(qje y.one (qjt hi) (qjt B)).1 r,i⟩
  .exact (p a B e).elim
  .obtain ⟨r,i⟩:=st.sim.inj _ _ _ _ _ _ _ _ _ a e;have:=(y.lt _ _ (qjt hi)).1;omega
  .exact (p e hi a).elim
  .exact s.inj _ _ _ _ _ _ _ _ _ a e
  .exact (p e hi a).elim
  .obtain ⟨r,i⟩:=st.sim.inj _ _ _ _ _ _ _ _ _ a e;have:=(y.lt _ _ (qjt B)).1;omega
  .exact (p a B e).elim
  .obtain ⟨r,i⟩:=st.sim.inj _ _ _ _ _ _ _ _ _ a e;exact ⟨by omega,i⟩
 .rw [t] at Q;split at Q
  .obtain ⟨nm,o1,p1,X,p3⟩:=qvp hl (qce _ _ _ Q);have ab:nm<H1.next:=by
    rw [hn];simp only [Fact.names,cond_eq_ite,Nat.ble_eq,Nat.blt_eq] at X;split at X
    .split at X
     .assumption
     .cases X
    .have:=(y.lt _ _ (qfq X)).1;omega
   exact (qdl.ren Y X p3).1 (st.sim.obj nm o1 ab (zcc S p1))
  .rename_i D;have I:k<H.next:=by
    by_cases ad:k<H.next
    .exact ad
    .exfalso;apply D;refine List.mem_append_right _ (List.mem_range'_1.2 ⟨by omega,?_⟩);simp only at c;exact c
   obtain ⟨r,i⟩:=v k I D;exact (s.obj k o I Q).ext R r i
 .have:=s.ro;simp only;omega
 .simp only at f;rw [t,zF (u g (by have:=s.qp;omega))] at Q;obtain ⟨m,hm⟩:=s.globs g o f Q;exact ⟨m,P _ _ _ hm⟩
 .rw [t,zF (u k C)]
 .exact (v k (by have:=s.ro;omega) (u k C)).1 g x A
 .have D:k ∉ F.qrx ρ H.next:=by
   intro D;rcases M k D with ⟨nm,o,a,J,N⟩ | ⟨a,_⟩
   .obtain ⟨k',o',r,i,W⟩:=qt9 y.pre a;rw [qh3 y.one N] at r;cases r;rw [j] at W;cases W
   .omega
  obtain ⟨r,i⟩:=v k c D;exact ⟨by rw [t,zF D];exact j,i,r⟩
theorem Fact.zqn {F:Fact} (E:qdx P (ja (qw P sp) n)) {fn:Func} {c:Code} (I:P.funcs[F.f]? = some fn) (g:(fn.name == "runtime.NumGoroutine")=false) (J:fn.body=some c) (h:F.ok2 (qw P sp) n=true)
  {args:List V} {H H':Heap} {r:CR} (d:F.qdw args H=some (r,H')) {G:qj} {w:World} {a:Array Value} (B:Sim H G w) (L:qn G w args a.toList) {K:Fence} {m:Nat} (X:qeu K) :
  CallsIn K m P F.f a w λe w'=>∃ k,Step H G w H' k w'/\qio k w' r e:=by
 unfold Fact.qdw at d;simp only at d;split at d;rotate_left
 .cases d
 rename_i ρ _;simp only [cond_eq_ite] at d;split at d
 .rename_i b;have b:=q93 b;simp only [zI,zM,zP] at d;obtain ⟨Y,q,l,M,rfl,rfl⟩:=d;unfold Fact.ok2 at h;split at h
  .rename_i v H1 o;simp only [zA,Nat.beq_eq,Nat.ble_eq] at h;obtain ⟨⟨⟨⟨⟨N,O⟩,c3⟩,c5⟩,c6⟩,c4⟩:=h;have Q:=qjq N;subst Q;have s:=q61 B b c5 c6;have t:∀ nm u,assoc ρ nm=some u->∀ y,G u y=qb7 G ρ nm y:=by
    intro nm u R y;simp only [qb7,R]
   have i:qn (qb7 G ρ) w F.args a.toList:=(qn.ren t b.args).2 L;have C:(invoke (.fn (.func F.f) #[]) a).run P w=.ok (.enter F.f a) w:=by
    have S:(invoke (.fn (.func F.f) #[]) a).run P w=(callFunc F.f (a++#[])).run P w:=rfl;rw [S,Array.append_empty,qau I g J]
   have j:CallsIn K m P F.f a w λe w'=>∃ k,Step F.heap (qb7 G ρ) w H1 k w'/\qio k w' (.ret F.ret) e:=by
    rcases E (.func F.f) F.args F.heap _ H1 o (qb7 G ρ) w (.fn (.func F.f) #[]) a s ⟨#[],rfl,by simpa using i⟩ with ⟨x,w',k,v,D,_⟩ | ⟨T,p,D,Z⟩ | ⟨l,T,t',a',b',D,_⟩
    .simp_all
    .simp_all
    .simp_all
   refine j.mono λe w' ⟨G1,st,U⟩=>?_;obtain ⟨z,A⟩:=Fact.zuj B b c3 st O c4 M;obtain ⟨x,rfl,W⟩:=U;exact ⟨_,z,x,rfl,(Rel.ren A q).1 W⟩
  .cases h
 .cases d
def qpk:List Fact->Nat->List V->Heap->Option (CR×Heap)
 | [],_,_,_=>none
 | F::l,f,args,H=>bif Nat.beq F.f f then (match F.qdw args H with
   | some r=>some r
   | none=>qpk l f args H) else qpk l f args H
def qci (l:List Fact) (f:Nat):Option (List V->Heap->Option (CR×Heap)):=
 bif l.any (λF=>Nat.beq F.f f) then some (qpk l f) else none
theorem qml:∀ {l:List Fact} (_:∀ F ∈ l,je P F.f F.qdw) (f:Nat),je P f (qpk l f)
 | [],_,f=>λargs H r H' a=>by simp [qpk] at a
 | F::l,b,f=>λargs H r H' a=>by
  simp only [qpk,cond_eq_ite] at a;split at a
  .rename_i e;rw [Nat.beq_eq] at e;subst e;split at a
   .rename_i g c;cases a;exact b F zC args H r H' c
   .exact qml (λd h=>b d (zG _ h)) F.f args H r H' a
  .exact qml (λd h=>b d (zG _ h)) f args H r H' a
theorem q0k (hm:P.follows .mixedOrders=true) (b:qme P=true) {l:List Fact} (c:∀ F ∈ l,je P F.f F.qdw) (k:Nat):qdx P (ja (qw P (qci l)) k):=by
 refine qa5 hm (zlg b) (q9r b) (λf s a=>?_) k;unfold qci at a;rw [cond_eq_ite] at a;split at a
 .cases a;exact qml c f
 .cases a
theorem kx:∀ F ∈ ([]:List Fact),je P F.f F.qdw:=λF h=>by cases h
theorem zh {F:Fact} {l:List Fact} (h:je P F.f F.qdw) (c:∀ F ∈ l,je P F.f F.qdw):∀ a ∈ F::l,je P a.f a.qdw:=by
 intro a b;rcases zD.1 b with rfl | b
 .exact h
 .exact c a b
theorem z8 (hm:P.follows .mixedOrders=true) (a:qme P=true) {l:List Fact} (i:∀ F ∈ l,je P F.f F.qdw) {F:Fact} (j:qgc (qw P λ_=>none) F.f=true) (h:F.ok2 (qw P (qci l)) n=true):je P F.f F.qdw:=by
 intro args H r H' k G w b o p;obtain ⟨fn,c,d,e,g⟩:=qq1 j;exact ⟨fn,c,d,e,g,λK m q=>Fact.zqn (q0k hm a i n) d e g h k o p q⟩
def Fact.q66 (F:Fact) (args:List V) (H:Heap):Option (CR×Heap):=
 bif F.fits (F.pre.map λx=>(x.1,x.1)) args H&&Nat.beq F.ro F.next&&qlq F.ret ((qgf (λ_=>none) F.ret).getD (.tuple [.nilp])) then some (.ret F.ret,H) else none
theorem Fact.zui {F:Fact} {ρ:List (Nat×Nat)} {args:List V} {H H1:Heap} {G s:qj} {w w':World} (d:Sim H G w) (q:Fits F ρ args H) (j:F.ro=F.next) (st:Step F.heap (qb7 G ρ) w H1 s w'):Step H G w H G w':=by
 have a:∀ k g b sh n,G k g=some (b,sh,n)->w'.heap[b]? = w.heap[b]?:=by
  intro k g b sh n c;cases r:inv ρ k with
  | some nm=>
   have e:=qjt r;refine st.ext.ro nm g b sh n (show nm<F.ro by rw [j];exact (q.lt _ _ e).1) ?_;simp only [qb7,qh3 q.one e];exact c
  | none=>
   refine (st.ext.frg b (d.lt _ _ _ _ _ c).1 ?_).1;intro nm' A t B l;obtain ⟨C,u,p⟩:=qd2 l;obtain ⟨v,_⟩:=d.inj _ _ _ _ _ _ _ _ _ c p;subst v;exact qsd r _ u
 have f:Ext H.ro G w G w':=by
  refine ⟨λ_ _ _ h=>h,λb x i=>⟨(st.ext.frg b x ?_).1,i⟩,st.ext.size,st.ext.shp,λk g b sh m _ c=>a k g b sh m c,st.ext.out⟩;intro nm g sh m l;obtain ⟨k,_,p⟩:=qd2 l;exact i k g sh m p
 exact ⟨f,⟨λk g b sh m c=>⟨zL (d.lt _ _ _ _ _ c).1 st.ext.size,(d.lt _ _ _ _ _ c).2⟩,d.inj,λk o y z=>(d.obj k o y z).ext f (λ_ _ h=>h) (λg b sh m c=>a k g b sh m c),d.ro,d.qp,d.globs⟩,
  zN _,rfl,rfl,λ_ _=>rfl,λ_ _ _ h _=>h,λk _ h=>⟨h,λg b sh m c=>a k g b sh m c,λ_ _ h=>h⟩⟩
theorem Fact.zqm {F:Fact} (M:qdx P (ja (qw P sp) n)) {fn:Func} {c:Code} (N:P.funcs[F.f]? = some fn) (g:(fn.name == "runtime.NumGoroutine")=false) (O:fn.body=some c) (h:F.ok2 (qw P sp) n=true)
  {args:List V} {H H':Heap} {r:CR} (o:F.q66 args H=some (r,H')) {G:qj} {w:World} {a:Array Value} (I:Sim H G w) (Q:qn G w args a.toList) {K:Fence} {m:Nat} (Y:qeu K) :
  CallsIn K m P F.f a w λe w'=>∃ k,Step H G w H' k w'/\qio k w' r e:=by
 unfold Fact.q66 at o;simp only [cond_eq_ite,zA,Nat.beq_eq] at o;split at o
 .rename_i y;obtain ⟨⟨b,z⟩,d⟩:=y;cases o;have b:=q93 b;generalize (F.pre.map λx=>(x.1,x.1))=ρ at b;unfold Fact.ok2 at h;split at h
  .rename_i v H1 p;simp only [zA,Nat.beq_eq,Nat.ble_eq] at h;obtain ⟨⟨⟨⟨⟨R,Z⟩,c3⟩,c5⟩,c6⟩,c4⟩:=h;have S:=qjq R;subst S;have A:=q61 I b c5 c6;have B:∀ nm C,assoc ρ nm=some C->∀ D,G C D=qb7 G ρ nm D:=by
    intro nm C T D;simp only [qb7,T]
   have i:qn (qb7 G ρ) w F.args a.toList:=(qn.ren B b.args).2 Q;have J:(invoke (.fn (.func F.f) #[]) a).run P w=.ok (.enter F.f a) w:=by
    have U:(invoke (.fn (.func F.f) #[]) a).run P w=(callFunc F.f (a++#[])).run P w:=rfl;rw [U,Array.append_empty,qau N g O]
   have j:CallsIn K m P F.f a w λe w'=>∃ k,Step F.heap (qb7 G ρ) w H1 k w'/\qio k w' (.ret F.ret) e:=by
    rcases M (.func F.f) F.args F.heap _ H1 p (qb7 G ρ) w (.fn (.func F.f) #[]) a A ⟨#[],rfl,by simpa using i⟩ with ⟨x,w',k,v,L,_⟩ | ⟨W,s,L,h2⟩ | ⟨l,W,t',a',b',L,_⟩
    .simp_all
    .simp_all
    .simp_all
   refine j.mono λe w' ⟨G1,st,X⟩=>?_;obtain ⟨x,rfl,E⟩:=X;refine ⟨G,Fact.zui I b z st,x,rfl,?_⟩;cases t:qgf (λ_=>none) F.ret with
   | none=>
    rw [t] at d;have q:=qjq d;simp only [Option.getD_none] at q;rw [q] at E ⊢;exact E
   | some u=>
    rw [t] at d;have q:=qjq d;simp only [Option.getD_some] at q;rw [<-q] at t;exact (Rel.ren (m:=λ_=>none) (G2:=G) (λ_ _ h=>by cases h) t).1 E
  .cases h
 .cases o
theorem q78 (hm:P.follows .mixedOrders=true) (a:qme P=true) {l:List Fact} (i:∀ F ∈ l,je P F.f F.qdw) {F:Fact} (j:qgc (qw P λ_=>none) F.f=true) (h:F.ok2 (qw P (qci l)) n=true):je P F.f F.q66:=by
 intro args H r H' k G w b o p;obtain ⟨fn,c,d,e,g⟩:=qq1 j;exact ⟨fn,c,d,e,g,λK m q=>Fact.zqm (q0k hm a i n) d e g h k o p q⟩
end
end Go.E2
