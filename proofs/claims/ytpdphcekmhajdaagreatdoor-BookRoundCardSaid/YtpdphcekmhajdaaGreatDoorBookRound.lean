/- THE LAW BookRound of the chapter 39: the call returns true and nothing that was there before it is turned, whatever the arguments. No condition beyond its row's own: the listed variables read as the program's text lays them. -/
import Derived.Test.YtpdphcekmhajdaaGreatDoorCards
import Derived.Test.YtpdphcekmhajdaaGreatDoorTie
import Derived.Test.YtpdphcekmhajdaaGreatDoorBrFacts
import Derived.Test.YtpdphcekmhajdaaGreatDoorBrVars
import Derived.Test.YtpdphcekmhajdaaGreatDoorBrWit
import Derived.WalkKit
import Derived.ProofKit
import Derived.OpenShut
import Derived.ChangeMaps5
import Derived.Deep.DeepHandedRow
namespace Go.Proofs.YtpdphcekmhajdaaGreatDoor.bookRound
open Go.ChangeShapes Go.WideShapes Go.ChangeAt Go.RowKit Go.ChangeMaps
set_option maxRecDepth 100000
theorem own:ownKnob Tryz.prog.godebug=none:=by kernel_rfl
theorem qbq:bookAwake.zf=[(0,.row (qox.map E3.qfx) 136 0 0 0 true),(1,.row (qyf.map E3.qfx) 184 0 0 0 true)]:=by kernel_rfl
theorem toText {W:World} (a:laidMetH Tryz.prog Rows.bookRoundRow.laid W):laidMet Tryz.prog Rows.bookRoundRow.laid W:=by
  unfold laidMetH at a;rw [ziz] at a;exact a
/-- The variables lie there. -/
theorem laid {W:World} (c:laidMetH Tryz.prog Rows.bookRoundRow.laid W) (a:W.ShapedOpen Tryz.prog) (gn:Nat) (o:E2.O) (h:(cfg sp).gobj gn=some o):(E3.qgu W 7).get gn=some o/\gn<(E3.qgu W 7).next:=by
  have b:=E3.qfz (show E3.look bookAwake.zf gn=some o from h);have d:=zo1 a;rw [qbq] at b;simp only [zD,zP,List.not_mem_nil,or_false] at b;rcases b with ⟨rfl,rfl⟩ | ⟨rfl,rfl⟩
  . exact ⟨E3.qp8 (zt8 (toText c) a),show 0<W.heap.size by omega⟩
  . exact ⟨E3.qp8 (zym (toText c) a),show 1<W.heap.size by omega⟩
/-- The fields that are used, as truth values. -/
noncomputable def zuk:List Bool:=qox.map λ
  | .bool b=>b
  | _=>false
theorem zzo:q8w 0=some (zuk.map E3.P.lit):=by kernel_rfl
theorem zzp:qox.map E3.qfx=zuk.map E2.V.bool:=by kernel_rfl
theorem constants {W:World} (k:laidMetH Tryz.prog Rows.bookRoundRow.laid W) (c:W.ShapedOpen Tryz.prog) (gn:Nat) (ps:List (E3.PV KT)) (h:(cfg sp).zf gn=some ps) :
    gn<(E3.qgu W 7).zf/\∃ g e fl fz ex,(E3.qgu W 7).get gn=some (.row g e 0 fl fz ex)/\gn<(E3.qgu W 7).next/\E3.Rep XK szK (E3.wd0 (E3.qgu W 7) (λ_=>False) (cfg sp).codec) (.eptr ps 0) (.ptr gn 0 0 g.length):=by
  have f:q8w gn=some ps:=h;have l:gn=0:=by
    rcases gn with _ | gn
    . rfl
    . cases f
  subst l;rw [zzo] at f;cases f;have a:(E3.qgu W 7).get 0=some (.row (qox.map E3.qfx) 136 0 0 0 true):=E3.qp8 (zt8 (toText k) c);rw [zzp] at a;refine ⟨show 0<7 by decide,_,_,_,_,_,a,show 0<W.heap.size by have:=zo1 c;omega,?_⟩;refine E3.Rep.eptr (d:=0) (off:=0) a (zN 0) (λh=>h) (by rw [List.length_map,List.length_map];exact Nat.le_of_eq (Nat.zero_add _)) (zN _) (λj p i=>?_);rw [List.getElem?_map] at i;obtain ⟨b,m,rfl⟩:=zM.1 i;rw [Nat.zero_add,List.getD_eq_getElem?_getD,List.getElem?_map,m];exact .lit
/-! ### The first argument: a list of numbers -/
def good:∀ c,KT c->Prop
  | 1=>λn=>E3.I64 n
  | _=>λ_=>True
def cdA:Nat->Option Nat:=E3.look [(3,1)]
theorem zk7:E3.ArgOk good XK szK Tryz.prog cdA 8:=by
  refine ⟨λe c h=>?_⟩;have:=E3.qfz h;simp only [zD,zP,List.not_mem_nil,or_false] at this;obtain ⟨rfl,rfl⟩:=this;refine ⟨[.int .i64],by kernel_rfl,rfl,rfl,by kernel_rfl,by decide,λps h=>?_⟩;obtain ⟨p,d,rfl,⟨n,rfl,a,b⟩,rfl⟩:=h;exact ⟨True,n,rfl,trivial,a,b⟩
theorem body:∃ c,Tryz.f3.body=some c:=⟨_,rfl⟩
theorem contract (H:Type) (enc:TypeId×Value->H) (W:World) (base:Nat) (args:Array Value) (V gs:List (DataW H)) (before:List MemPlace)
    (c:∀ (j:Nat) t v,Tryz.f3.params[j]? = some t->args[j]? = some v->Value.okWide Tryz.prog W .any base t v)
    (X:DataW.Whole enc Tryz.prog Tryz.f3.params.toList Rows.bookRoundSpec.vars false W args.toList V gs before) (Y:laidMetH Tryz.prog Rows.bookRoundRow.laid W) (s:W.ShapedOpen Tryz.prog) :
    Calls Tryz.prog 3 args W λe I=>∃ v,e=.returned v/\Rows.bookRoundSpec.post enc Tryz.prog Tryz.f3 false true false false W args v I:=by
  have J:=X;obtain ⟨p,q,K,_⟩:=X;have Z:DataW.TrodAll enc Tryz.prog W 0 (λ_=>true) true Tryz.f3.params.toList args.toList V p:=K;rw [Tryz.params3] at Z c;obtain ⟨v1,v2,v3,d1,d2,d3,p1,p2,p3,ha,rfl,rfl,h1,h2,h3⟩:=trodAll_three Z;subst ha;obtain ⟨cd,L⟩:=body;have N:∀ n:Nat,¬ (λ_:Nat=>False) n:=λn h=>h;have D:=E3.z00 (W:=W) (ng:=7) (zo1 s);have O:∀ nm g x,E3.qdw W nm g=some x->nm<(E3.qgu W 7).ro:=by
    intro nm g x h;obtain ⟨_,P,e,fz,d,_⟩:=E3.qbl h;exact (Array.getElem?_eq_some_iff.1 d).1
  obtain ⟨pv,u,y,E,z⟩:=E3.q46 (C:=cfg sp) (ng:=7) (M:=λ_=>False) qal zk7 N (t:=22) (leaf:=.list 1) (by kernel_rfl) (by kernel_rfl) (c 0 22 v1 rfl rfl) h1;obtain ⟨l,rfl,Q,R⟩:=y;obtain ⟨qv,u2,f,A,i⟩:=E3.q46 (C:=cfg sp) (ng:=7) (M:=λ_=>False) qal zk7 N (t:=3) (leaf:=.int .i64) (by kernel_rfl) (by kernel_rfl) (c 1 3 v2 rfl rfl) h2;obtain ⟨w,rfl,hw⟩:=f;obtain ⟨rv,u3,k,B,m⟩:=E3.q46 (C:=cfg sp) (ng:=7) (M:=λ_=>False) qal zk7 N (t:=3) (leaf:=.int .i64) (by kernel_rfl) (by kernel_rfl) (c 2 3 v3 rfl rfl) h3;obtain ⟨hh,rfl,S⟩:=k;have F:E2.qi (E3.qdw W) W [u,u2,u3] (#[v1,v2,v3]:Array Value).toList:=E2.qi.cons z (E2.qi.cons i (E2.qi.cons m E2.qi.nil));have r:E3.Start XK szK (cfg sp) (E3.qgu W 7) (λ_=>False):=by
    refine ⟨λn hn=>?_,⟨zN _,rfl,laid Y s⟩,λn h=>h.elim,constants Y s⟩;cases hg:(E3.qgu W 7).get n with
    | none=>rfl
    | some o=>
      obtain ⟨P,e,fz,d,_⟩:=E3.qrs hg;exact absurd (Array.getElem?_eq_some_iff.1 d).1 (Nat.not_lt.2 hn)
  have G:=q87 quiet zqe zv1 zv3 zta l w hh ⟨⟨Int.le_trans (Int.ofNat_le.2 Q) (by decide),R⟩,hw,S⟩ _ _ [u,u2,u3] r (.cons E (.cons A (.cons B .nil)));refine (E2.q7y Tryz.checked.mixed bookAwake.tables z01 Tryz.func3 (by kernel_rfl) L D F G).mono λe I ⟨v,H',x,G',T,he,hx,st⟩=>?_;obtain ⟨w',T⟩:=T;have hr:=T.rep;obtain rfl:v=.bool true:=by cases hr;rfl
  simp only [E2.Rel] at hx;subst hx;subst he;have a:∀ b,b<W.heap.size->I.heap[b]? = W.heap[b]?:=E3.zhv st.ext;refine ⟨_,rfl,E3.q12 (t:=4) J rfl rfl Tryz.underlying4 rfl ⟨p1++(p2++p3),?_⟩ (λU=>st.ext.keptBut O U)⟩;rw [Tryz.params3];exact trodAll_mk3 (E3.qsa (by kernel_rfl) (by kernel_rfl) (Nat.le_of_ble_eq_true (by kernel_rfl)) h1 a _ λb d=>decide_eq_true d) (E3.qsa (by kernel_rfl) (by kernel_rfl) (Nat.le_of_ble_eq_true (by kernel_rfl)) h2 a _ λb d=>decide_eq_true d) (E3.qsa (by kernel_rfl) (by kernel_rfl) (Nat.le_of_ble_eq_true (by kernel_rfl)) h3 a _ λb d=>decide_eq_true d)
theorem lifted (os:Os) (started:os.Started) (H:Type) (enc:TypeId×Value->H) (F:Stop.Interp) :
    ReturnsInHanded {} Tryz.checked os 3 .any ((OpenSpec.ofChange Rows.bookRoundSpec).preRow enc Tryz.prog Tryz.f3 Rows.bookRoundRow.domain false Rows.bookRoundRow.laid) (((OpenSpec.ofChange Rows.bookRoundSpec).at F).post enc Tryz.prog Tryz.f3 false true false false):=by
  obtain ⟨c,e⟩:=reads os enc;refine returnsInHanded_of_row (C:=Tryz.checked) (s:=OpenSpec.ofChange Rows.bookRoundSpec) own started (by kernel_rfl) Tryz.func3
    (witness_row_at (enc:=enc) (C:=Tryz.checked) false (qus os) wit rfl (by kernel_rfl) (by kernel_rfl) (by kernel_rfl)
      (OpenSpec.preRow_of_cond 8 e (by kernel_rfl) (λk f=>by cases f) (by kernel_rfl) (zms os))) ?_
  intro W base args g h a b i _ _ _ j d _;exact contract H enc W base args g h a b i j d
theorem said:Rows.BookRoundSaid:=
  OpenClaim.holds_of_cond 3 Tryz.f3 rfl rfl rfl rfl rfl rfl rfl ⟨rfl,rfl,rfl,rfl,rfl⟩ rfl rfl rfl rfl rfl (by kernel_rfl) Tryz.func3 (by kernel_rfl)
    (of_decide_eq_true (by kernel_rfl)) (by unfold Func.isWrapper;first | (rw [zT (by decide +kernel)];kernel_rfl) | (rw [zF (by decide +kernel)];exact ⟨rfl,rfl⟩))
    (λb a H enc _ F=>by rw [OpenClaim.pre_eq_preRow];exact lifted b a H enc F)
/-- No parameter wants a stand-in; the program's own looks. -/
theorem plain (f:FuncId) (fn:Func) (d:Tryz.pinned.checked.prog.funcNamed "tactus/tactuslaw39.BookRound" = some f) (b:Tryz.pinned.checked.prog.funcs[f]? = some fn) :
    false=Tryz.pinned.checked.prog.looks []/\∀ (j:Nat) t,fn.params[j]? = some t->Tryz.pinned.checked.prog.wantsStandIn t=false:=by
  obtain rfl:f=3:=Option.some.inj ((show Tryz.prog.funcNamed "tactus/tactuslaw39.BookRound" = some 3 by kernel_rfl).symm.trans d) |>.symm;obtain rfl:fn=Tryz.f3:=(Option.some.inj (Tryz.func3.symm.trans b)).symm;refine ⟨by kernel_rfl,λj t a=>?_⟩;rw [Tryz.params3] at a;have e:Tryz.pinned.checked.prog.wantsStandIn 22=false:=by kernel_rfl
  have c:Tryz.pinned.checked.prog.wantsStandIn 3=false:=by kernel_rfl
  rcases j with _ | _ | _ | j
  . obtain rfl:22=t:=by simpa using a
    exact e
  . obtain rfl:3=t:=by simpa using a
    exact c
  . obtain rfl:3=t:=by simpa using a
    exact c
  . simp at a
/-- THE CARD. -/
theorem card:Rows.BookRoundCardSaid:=
  Claim7.holds_tied_plain_at .later [] _ _ _ _ said (λ_ h=>by cases h) (by kernel_rfl) (λ_ h=>by cases h) bookRound_row_tie rfl ⟨rfl,rfl⟩ (by kernel_rfl) rfl plain (by kernel_rfl)
#print axioms card
end Go.Proofs.YtpdphcekmhajdaaGreatDoor.bookRound
