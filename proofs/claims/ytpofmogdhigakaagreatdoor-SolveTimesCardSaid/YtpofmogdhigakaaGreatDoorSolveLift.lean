import Derived.Test.YtpofmogdhigakaaGreatDoorOkL
import Derived.Test.YtpofmogdhigakaaGreatDoorM6
import Derived.Test.YtpofmogdhigakaaGreatDoorM7
import Derived.Test.YtpofmogdhigakaaGreatDoorSolveVars
import Derived.Test.YtpofmogdhigakaaGreatDoorSolveWit
import Derived.Test.YtpofmogdhigakaaGreatDoorSolveAwakeQ
import Derived.WalkKit
import Derived.ProofKit
import Derived.OpenShut
import Derived.ChangeMaps5
import Derived.Deep.DeepHandedRow
namespace Go.Proofs.YtpofmogdhigakaaGreatDoor.solveTimes
open Go.ChangeShapes Go.WideShapes Go.ChangeAt Go.RowKit Go.ChangeMaps
set_option maxRecDepth 100000
theorem own:ownKnob Tryz.prog.godebug=none:=by kernel_rfl
theorem q5w:solveAwake.quc.qxe=true:=by kernel_rfl
theorem zcj:E2.je Tryz.prog solveAwake.quc.f solveAwake.quc.q66:=E2.q78 Tryz.checked.mixed solveAwake.tables solveAwake.zsq (by kernel_rfl) solveAwake.zev
def sp (f:Nat):Option (List E2.V->E2.Heap->Option (E2.CR×E2.Heap)):=if f=5 then some solveAwake.quc.q66 else none
theorem zp3:E3.zda (cfg sp):=λf a=>by
 show sp f=none;unfold sp;rw [zF];rintro rfl;cases a
theorem quiet:E3.qt (cfg sp):=⟨zp3,λf h=>by cases h⟩
theorem zvt:∀ f s,sp f=some s->E2.je Tryz.prog f s:=by
 intro f s h;unfold sp at h;split at h
 .rename_i a;cases h;subst a;exact zcj
 .cases h
theorem zci (H:E2.Heap) (a:H.qp=(cfg sp).ng) (b:∀ gn o,(cfg sp).gobj gn=some o->H.get gn=some o/\gn<H.next):E2.qaa (cfg sp).E (.func 5) [] H λv H'=>v=.bool true/\H'=H:=
 E2.q7y (s:=solveAwake.quc.q66) rfl (E2.zjy q5w a λx c=>b x.1 x.2 (E3.qp3 (by kernel_rfl) c)) ⟨rfl,rfl⟩
theorem zio:E3.qhp XK szK (cfg sp) 5 [] (.sb 0 false true (true=true) (true=false)):=E3.zef ze (v:=.bool true) .sb rfl zci λH M=>.sb (by simp) (by simp) λa=>absurd rfl a
theorem ziq:E3.kz XK szK (cfg sp) 5 c5.v:=E3.q2i rfl λ_ _ args e=>by
 cases (show some []=some args from e);exact zio
theorem qbu:solveAwake.qp=[(0,.row (qm5.map E3.qgo) 145 0 0 0 true),(1,.row (qxa.map E3.qgo) 35 0 0 0 true),(2,.row (qm6.map E3.qgo) 216 0 0 0 true)]:=by kernel_rfl
theorem laid {W:World} (c:laidMetH Tryz.prog Rows.solveTimesRow.laid W) (a:W.ShapedOpen Tryz.prog) (gn:Nat) (o:E2.O) (h:(cfg sp).gobj gn=some o):(E3.qd4 W 3).get gn=some o/\gn<(E3.qd4 W 3).next:=by
 have b:laidMet Tryz.prog Rows.solveTimesRow.laid W:=by
  unfold laidMetH at c;rw [q1j] at c;exact c
 have d:=E3.qco (show E3.look solveAwake.qp gn=some o from h);have e:=q1r a;rw [qbu] at d;simp only [zD,zP,List.not_mem_nil,or_false] at d;rcases d with ⟨rfl,rfl⟩ | ⟨rfl,rfl⟩ | ⟨rfl,rfl⟩
 .exact ⟨E3.qik (zlk b a),show 0<W.heap.size by omega⟩
 .exact ⟨E3.qik (zss b a),show 1<W.heap.size by omega⟩
 .exact ⟨E3.qik (zll b a),show 2<W.heap.size by omega⟩
noncomputable def zl1:List Bool:=qm5.map λv=>match v with
 | .bool b=>b
 | _=>false
noncomputable def zd3:List Int:=qm6.map λv=>match v with
 | .int _ n=>n
 | _=>0
theorem znm:q0t 0=some (zl1.map E3.P.lit):=by kernel_rfl
theorem zvw:qm5.map E3.qgo=zl1.map E2.V.bool:=by kernel_rfl
theorem znn:q0t 2=some (zd3.map λv=>E3.P.int .i64 (some v) v):=by kernel_rfl
theorem zvx:qm6.map E3.qgo=zd3.map λv=>E2.V.int .i64 v:=by kernel_rfl
theorem toText {W:World} (a:laidMetH Tryz.prog Rows.solveTimesRow.laid W):laidMet Tryz.prog Rows.solveTimesRow.laid W:=by
 unfold laidMetH at a;rw [q1j] at a;exact a
theorem constants {W:World} (k:laidMetH Tryz.prog Rows.solveTimesRow.laid W) (c:W.ShapedOpen Tryz.prog) (gn:Nat) (ps:List (E3.PV KT)) (h:(cfg sp).qp gn=some ps) :
  gn<(E3.qd4 W 3).qp/\∃ vs e fl l ex,(E3.qd4 W 3).get gn=some (.row vs e 0 fl l ex)/\gn<(E3.qd4 W 3).next/\E3.Rep XK szK (E3.wd0 (E3.qd4 W 3) (λ_=>False) (cfg sp).codec) (.eptr ps 0) (.ptr gn 0 0 vs.length):=by
 have f:q0t gn=some ps:=h;have n:gn=0∨gn=2:=by
  rcases gn with _ | _ | _ | gn
  .exact .inl rfl
  .cases f
  .exact .inr rfl
  .cases f
 rcases n with rfl | rfl
 .rw [znm] at f;cases f;have a:(E3.qd4 W 3).get 0=some (.row (qm5.map E3.qgo) 145 0 0 0 true):=E3.qik (zlk (toText k) c);rw [zvw] at a;refine ⟨show 0<3 by decide,_,_,_,_,_,a,show 0<W.heap.size by have:=q1r c;omega,?_⟩;refine E3.Rep.eptr (d:=0) (off:=0) a (zN 0) (λh=>h) (by rw [List.length_map,List.length_map];exact Nat.le_of_eq (Nat.zero_add _)) (zN _) (λj p g=>?_);rw [List.getElem?_map] at g;obtain ⟨b,i,rfl⟩:=zM.1 g;rw [Nat.zero_add,List.getD_eq_getElem?_getD,List.getElem?_map,i];exact .lit
 .rw [znn] at f;cases f;have a:(E3.qd4 W 3).get 2=some (.row (qm6.map E3.qgo) 216 0 0 0 true):=E3.qik (zll (toText k) c);rw [zvx] at a;refine ⟨show 2<3 by decide,_,_,_,_,_,a,show 2<W.heap.size by have:=q1r c;omega,?_⟩;refine E3.Rep.eptr (d:=0) (off:=0) a (zN 0) (λh=>h) (by rw [List.length_map,List.length_map];exact Nat.le_of_eq (Nat.zero_add _)) (zN _) (λj p g=>?_);rw [List.getElem?_map] at g;obtain ⟨b,i,rfl⟩:=zM.1 g;rw [Nat.zero_add,List.getD_eq_getElem?_getD,List.getElem?_map,i];exact .int λm o=>by cases o;rfl
def qhs:∀ c,KT c->Prop:=λ_ _=>True
def cdA:Nat->Option Nat:=E3.look [(49,4),(35,9)]
theorem zkl:E3.ArgOk qhs XK szK Tryz.prog cdA 8:=by
 refine ⟨λe c h=>?_⟩;have:=E3.qco h;simp only [zD,zP,List.not_mem_nil,or_false] at this;rcases this with ⟨rfl,rfl⟩ | ⟨rfl,rfl⟩
 .refine ⟨[.int .i64,.int .i64,.int .i64,.int .i64,.bool,.int .i64,.bool,.bool,.int .i64,.int .i64,.int .i64,.int .i64,.bool,.int .i64,.int .i64,.int .i64,.int .i64],by kernel_rfl,rfl,rfl,by kernel_rfl,by decide,λps h=>?_⟩;obtain ⟨m,n,rfl,⟨a,rfl,_⟩,o,p,rfl,⟨b,rfl,_⟩,L,M,rfl,⟨q,rfl,_⟩,N,O,rfl,⟨r,rfl,_⟩,P,Q,rfl,⟨s,rfl⟩,R,S,rfl,⟨t,rfl,_⟩,T,U,rfl,⟨u,rfl⟩,V,W,rfl,⟨v,rfl⟩,X,Y,rfl,⟨w,rfl,_⟩,Z,q9,rfl,⟨x,rfl,_⟩,y,z,rfl,⟨d,rfl,_⟩,A,B,rfl,⟨f,rfl,_⟩,C,D,rfl,⟨g,rfl⟩,E,F,rfl,⟨i,rfl,_⟩,G,q14,rfl,⟨j,rfl,_⟩,H,I,rfl,⟨k,rfl,_⟩,J,K,rfl,⟨l,rfl,_⟩,rfl⟩:=h;exact ⟨True,⟨a,b,q,r,s,t,u,v,w,x,d,f,g,i,j,k,l⟩,rfl,trivial,trivial⟩
 .refine ⟨[.int .i64,.int .i64],by kernel_rfl,rfl,rfl,by kernel_rfl,by decide,λps h=>?_⟩;obtain ⟨m,n,rfl,⟨a,rfl,_⟩,o,p,rfl,⟨b,rfl,_⟩,rfl⟩:=h;exact ⟨True,⟨a,b⟩,rfl,trivial,trivial⟩
theorem zge {w:E3.Wd} {v:E2.V} {b:Bool} {id:Nat} {neg:Bool} {a c:Prop} (h:E3.Rep XK szK w (.sb id neg b a c) v):v=.bool b:=by
 cases h;rfl
theorem body:∃ c,Tryz.f3.body=some c:=⟨_,rfl⟩
theorem contract (H:Type) (enc:TypeId×Value->H) (W:World) (base:Nat) (args:Array Value) (ds gs:List (DataW H)) (before:List MemPlace)
  (a:∀ (j:Nat) t v,Tryz.f3.params[j]? = some t->args[j]? = some v->Value.okWide Tryz.prog W .any base t v)
  (S:DataW.Whole enc Tryz.prog Tryz.f3.params.toList Rows.solveTimesSpec.vars false W args.toList ds gs before) (T:laidMetH Tryz.prog Rows.solveTimesRow.laid W) (k:W.ShapedOpen Tryz.prog) :
  Calls Tryz.prog 3 args W λe E=>∃ v,e=.returned v/\Rows.solveTimesSpec.post enc Tryz.prog Tryz.f3 false true false false W args v E:=by
 have F:=S;obtain ⟨p,q,G,_⟩:=S;have U:DataW.TrodAll enc Tryz.prog W 0 (λ_=>true) true Tryz.f3.params.toList args.toList ds p:=G;rw [Tryz.params3] at U a;obtain ⟨V,X,d1,d2,p1,p2,ha,rfl,rfl,Y,Z⟩:=trodAll_two U;subst ha;obtain ⟨cd,I⟩:=body;have hM:∀ n:Nat,¬ (λ_:Nat=>False) n:=λn h=>h;have z:=E3.zvs (W:=W) (ng:=3) (q1r k);have J:∀ nm g x,E3.qga W nm g=some x->nm<(E3.qd4 W 3).ro:=by
  intro nm g x h;obtain ⟨_,K,e,fz,r,_⟩:=E3.qd3 h;exact (Array.getElem?_eq_some_iff.1 r).1
 obtain ⟨pv,u,s,A,w⟩:=E3.q7o (C:=cfg sp) (ng:=3) (M:=λ_=>False) zi zkl hM (t:=24) (ls:=[.str,.list 4]) Tryz.underlying24 (by kernel_rfl) (a 0 24 V rfl rfl) Y;obtain ⟨_,_,rfl,⟨nm,rfl,L⟩,_,_,rfl,⟨l,rfl,N,_⟩,rfl⟩:=s;obtain ⟨qv,u2,d,y,f⟩:=E3.zhb (C:=cfg sp) (ng:=3) (M:=λ_=>False) zi zkl hM (t:=25) (leaf:=.list 9) (by kernel_rfl) (by kernel_rfl) (a 1 25 X rfl rfl) Z;obtain ⟨m,rfl,O,_⟩:=d;have B:E2.qn (E3.qga W) W [u,u2] (#[V,X]:Array Value).toList:=E2.qn.cons w (E2.qn.cons f E2.qn.nil);have i:E3.Start XK szK (cfg sp) (E3.qd4 W 3) (λ_=>False):=by
  refine ⟨λn hn=>?_,⟨zN _,rfl,laid T k⟩,λn h=>h.elim,constants T k⟩;cases hg:(E3.qd4 W 3).get n with
  | none=>rfl
  | some o=>
   obtain ⟨K,e,fz,r,_⟩:=E3.qq3 hg;exact absurd (Array.getElem?_eq_some_iff.1 r).1 (Nat.not_lt.2 hn)
 have P:=(zrt quiet ziq).fn rfl (nm,l,m,()) (args:=[.agg [.str nm,.list 4 l none],.list 9 m none]) rfl ⟨Int.le_trans (Int.ofNat_le.2 L) (by decide),Int.le_trans (Int.ofNat_le.2 N) (by decide),Int.le_trans (Int.ofNat_le.2 O) (by decide)⟩;have D:=P _ _ [u,u2] i (.cons A (.cons y .nil));refine (E2.q40 Tryz.checked.mixed solveAwake.tables zvt Tryz.func3 (by kernel_rfl) I z B D).mono λe E ⟨v,H',x,G',Q,he,hx,st⟩=>?_;obtain ⟨w',Q⟩:=Q;have hr:=Q.rep;obtain rfl:v=.bool true:=zge hr;simp only [E2.Rel] at hx;subst hx;subst he;have c:∀ b,b<W.heap.size->E.heap[b]? = W.heap[b]?:=E3.zb5 st.ext;refine ⟨_,rfl,E3.qzx (t:=4) F rfl rfl Tryz.underlying4 rfl ⟨p1++p2,?_⟩ (λR=>st.ext.keptBut J R)⟩;rw [Tryz.params3];exact trodAll_mk2 (E3.qzd (by kernel_rfl) (by kernel_rfl) (Nat.le_of_ble_eq_true (by kernel_rfl)) Y c _ λb r=>decide_eq_true r) (E3.qzd (by kernel_rfl) (by kernel_rfl) (Nat.le_of_ble_eq_true (by kernel_rfl)) Z c _ λb r=>decide_eq_true r)
theorem lifted (os:Os) (started:os.Started) (H:Type) (enc:TypeId×Value->H) (F:Stop.Interp) :
  ReturnsInHanded {} Tryz.checked os 3 .any ((OpenSpec.ofChange Rows.solveTimesSpec).preRow enc Tryz.prog Tryz.f3 Rows.solveTimesRow.domain false Rows.solveTimesRow.laid) (((OpenSpec.ofChange Rows.solveTimesSpec).at F).post enc Tryz.prog Tryz.f3 false true false false):=by
 obtain ⟨c,e⟩:=reads os enc;refine returnsInHanded_of_row (C:=Tryz.checked) (s:=OpenSpec.ofChange Rows.solveTimesSpec) own started (by kernel_rfl) Tryz.func3
  (witness_row_at (enc:=enc) (C:=Tryz.checked) false (qud os) wit rfl (by kernel_rfl) (by kernel_rfl) (by kernel_rfl)
    (OpenSpec.preRow_of_cond 8 e (by kernel_rfl) (λk f=>by cases f) (by kernel_rfl) (zew os))) ?_
 intro W base args ds g a b h _ _ _ i d _;exact contract H enc W base args ds g a b h i d
end Go.Proofs.YtpofmogdhigakaaGreatDoor.solveTimes
