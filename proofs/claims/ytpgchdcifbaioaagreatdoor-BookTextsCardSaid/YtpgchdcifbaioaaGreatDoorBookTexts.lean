/- THE LAW BookTexts of the chapter 39: the call returns true and nothing that was there before it is turned, whatever the arguments. No condition beyond its row's own: the listed variables read as the program's text lays them. -/
import Derived.Test.YtpgchdcifbaioaaGreatDoorCards
import Derived.Test.YtpgchdcifbaioaaGreatDoorTie
import Derived.Test.YtpgchdcifbaioaaGreatDoorM5
import Derived.Test.YtpgchdcifbaioaaGreatDoorBrFacts
import Derived.Test.YtpgchdcifbaioaaGreatDoorBrVars
import Derived.Test.YtpgchdcifbaioaaGreatDoorBrWit
import Derived.WalkKit
import Derived.ProofKit
import Derived.OpenShut
import Derived.ChangeMaps5
import Derived.Deep.DeepHandedRow
namespace Go.Proofs.YtpgchdcifbaioaaGreatDoor.bookTexts
open Go.ChangeShapes Go.WideShapes Go.ChangeAt Go.RowKit Go.ChangeMaps
set_option maxRecDepth 100000
/-- The element size of a list that lies in a cell: a staff begins with a list, a sign does not. -/
def szF (arr:Array Value) (off:Nat):Nat:=match arr[off]? with
  | some (.slice ..)=>4
  | _=>17
theorem own:ownKnob Tryz.prog.godebug=none:=by kernel_rfl
theorem q63:(qok.all λx=>!E3.qmk x)=true:=by kernel_rfl
theorem zn7:(qwh.all λx=>!E3.qmk x)=true:=by kernel_rfl
theorem qcg:bookAwake.zm=[(0,.row (qok.map E3.qrw) 133 0 0 0 true),(1,.row (qwh.map E3.qrw) 187 0 0 0 true)]:=by kernel_rfl
theorem toText {W:World} (a:laidMetH Tryz.prog Rows.bookTextsRow.laid W):laidMet Tryz.prog Rows.bookTextsRow.laid W:=by
  unfold laidMetH at a;rw [zoo] at a;exact a
/-- The variables lie there. -/
theorem laid {W:World} (d:laidMetH Tryz.prog Rows.bookTextsRow.laid W) (a:W.ShapedOpen Tryz.prog) (gn:Nat) (o:E2.O) (h:(cfg sp).gobj gn=some o):(E3.qfg W szF 7).get gn=some o/\gn<(E3.qfg W szF 7).next:=by
  have c:=E3.qez (show E3.look bookAwake.zm gn=some o from h);have e:=zwg a;rw [qcg] at c;simp only [zD,zP,List.not_mem_nil,or_false] at c;rcases c with ⟨rfl,rfl⟩ | ⟨rfl,rfl⟩
  . have b:=E3.qn6 (F:=szF) (ng:=7) (z18 (toText d) a)
    rw [List.toList_toArray,E3.qm7 q63] at b;exact ⟨b,show 0<W.heap.size by omega⟩
  . have b:=E3.qn6 (F:=szF) (ng:=7) (z6x (toText d) a)
    rw [List.toList_toArray,E3.qm7 zn7] at b;exact ⟨b,show 1<W.heap.size by omega⟩
/-- The fields that are used, as truth values. -/
noncomputable def z2m:List Bool:=qok.map λ
  | .bool b=>b
  | _=>false
theorem z79:zcs 0=some (z2m.map E3.P.lit):=by kernel_rfl
theorem z8a:qok.map E3.qrw=z2m.map E2.V.bool:=by kernel_rfl
theorem constants {W:World} (l:laidMetH Tryz.prog Rows.bookTextsRow.laid W) (c:W.ShapedOpen Tryz.prog) (gn:Nat) (ps:List (E3.PV KT)) (h:(cfg sp).zm gn=some ps) :
    gn<(E3.qfg W szF 7).zm/\∃ i e fl fz ex,(E3.qfg W szF 7).get gn=some (.row i e 0 fl fz ex)/\gn<(E3.qfg W szF 7).next/\E3.Rep XK szK (E3.wd0 (E3.qfg W szF 7) (λ_=>False) (cfg sp).codec) (.eptr ps 0) (.ptr gn 0 0 i.length):=by
  have g:zcs gn=some ps:=h;have f:gn=0:=by
    rcases gn with _ | gn
    . rfl
    . cases g
  subst f;rw [z79] at g;cases g;have a:(E3.qfg W szF 7).get 0=some (.row (qok.map E3.qrw) 133 0 0 0 true):=by
    have f:=E3.qn6 (F:=szF) (ng:=7) (z18 (toText l) c);rw [List.toList_toArray,E3.qm7 q63] at f;exact f
  rw [z8a] at a;refine ⟨show 0<7 by decide,_,_,_,_,_,a,show 0<W.heap.size by have:=zwg c;omega,?_⟩;refine E3.Rep.eptr (d:=0) (off:=0) a (zN 0) (λh=>h) (by rw [List.length_map,List.length_map];exact Nat.le_of_eq (Nat.zero_add _)) (zN _) (λj p k=>?_);rw [List.getElem?_map] at k;obtain ⟨b,m,rfl⟩:=zM.1 k;rw [Nat.zero_add,List.getD_eq_getElem?_getD,List.getElem?_map,m];exact .lit
/-! ### The first argument: a book -/
def good:∀ c,KT c->Prop
  | 7=>λs:Staff=>E3.ln s.Signs<=9223372036854775807
  | 8=>λp:Page=>E3.ln p.Staves<=9223372036854775807/\∀ s ∈ p.Staves,E3.ln s.Signs<=9223372036854775807
  | _=>λ_=>True
def cdA:Nat->Option Nat:=E3.look [(60,4),(41,7),(38,8)]
theorem cd4 {e:Nat} (h:cdA e=some 4):e=60:=by
  have:=E3.qez h;simp only [zD,zP,List.not_mem_nil,or_false] at this;rcases this with ⟨h,_⟩ | ⟨_,h⟩ | ⟨_,h⟩
  . exact h
  . cases h
  . cases h
theorem cd7 {e:Nat} (h:cdA e=some 7):e=41:=by
  have:=E3.qez h;simp only [zD,zP,List.not_mem_nil,or_false] at this;rcases this with ⟨_,h⟩ | ⟨h,_⟩ | ⟨_,h⟩
  . cases h
  . exact h
  . cases h
theorem cd8 {e:Nat} (h:cdA e=some 8):e=38:=by
  have:=E3.qez h;simp only [zD,zP,List.not_mem_nil,or_false] at this;rcases this with ⟨_,h⟩ | ⟨_,h⟩ | ⟨h,_⟩
  . cases h
  . cases h
  . exact h
theorem le_max {n:Nat} (h:n<=maxLen):(n:Int)<=9223372036854775807:=Int.le_trans (Int.ofNat_le.2 h) (by decide)
theorem z2k:E3.qq8 Tryz.prog cdA 8 60=some [.int .i64,.int .i64,.int .i64,.int .i64,.bool,.int .i64,.bool,.bool,.int .i64,.int .i64,.int .i64,.int .i64,.bool,.int .i64,.int .i64,.int .i64,.int .i64]:=by kernel_rfl
theorem zwm:E3.qq8 Tryz.prog cdA 8 41=some [.list 4,.int .i64,.bool,.int .i64]:=by kernel_rfl
theorem z5m:E3.qlp good XK szK Tryz.prog szF cdA 8 1 4:=by
  intro e h;obtain rfl:=cd4 h;refine ⟨_,z2k,λleaf j=>?_,rfl,by kernel_rfl,by decide,λps h=>?_⟩
  . simp only [zD,List.not_mem_nil,or_false] at j
    rcases j with rfl | rfl | rfl | rfl | rfl | rfl | rfl | rfl | rfl | rfl | rfl | rfl | rfl | rfl | rfl | rfl | rfl<;>exact .inl rfl
  . obtain ⟨_,_,rfl,⟨k,rfl,_⟩,_,_,rfl,⟨l,rfl,_⟩,_,_,rfl,⟨m,rfl,_⟩,_,_,rfl,⟨n,rfl,_⟩,_,_,rfl,⟨o,rfl⟩,_,_,rfl,⟨p,rfl,_⟩,_,_,rfl,⟨q,rfl⟩,_,_,rfl,⟨r,rfl⟩,_,_,rfl,⟨s,rfl,_⟩,_,_,rfl,⟨t,rfl,_⟩,_,_,rfl,⟨a,rfl,_⟩,_,_,rfl,⟨b,rfl,_⟩,_,_,rfl,⟨c,rfl⟩,_,_,rfl,⟨d,rfl,_⟩,_,_,rfl,⟨f,rfl,_⟩,_,_,rfl,⟨g,rfl,_⟩,_,_,rfl,⟨i,rfl,_⟩,rfl⟩:=h
    exact ⟨True,⟨k,l,m,n,o,p,q,r,s,t,a,b,c,d,f,g,i⟩,rfl,trivial,trivial⟩
theorem z5n:E3.qv9 szK Tryz.prog szF cdA 8 4:=by
  intro e ls c a d off h;obtain rfl:=cd4 c;rw [z2k] at a;cases a;obtain ⟨x,b,f⟩:=h 0 _ rfl;unfold szF;rw [Nat.add_zero] at b;rw [b];cases x<;>first | rfl | cases f
theorem z1g:E3.qlp good XK szK Tryz.prog szF cdA 8 2 7:=by
  intro e h;obtain rfl:=cd7 h;refine ⟨_,zwm,λleaf a=>?_,rfl,by kernel_rfl,by decide,λps h=>?_⟩
  . simp only [zD,List.not_mem_nil,or_false] at a
    rcases a with rfl | rfl | rfl | rfl
    . exact .inr ⟨4,rfl,z5m,z5n⟩
    . exact .inl rfl
    . exact .inl rfl
    . exact .inl rfl
  . obtain ⟨_,_,rfl,⟨l,rfl,a,_⟩,_,_,rfl,⟨b,rfl,_⟩,_,_,rfl,⟨c,rfl⟩,_,_,rfl,⟨d,rfl,_⟩,rfl⟩:=h
    exact ⟨True,⟨l,b,c,d⟩,rfl,trivial,le_max a⟩
theorem z1h:E3.qv9 szK Tryz.prog szF cdA 8 7:=by
  intro e ls c a d off h;obtain rfl:=cd7 c;rw [zwm] at a;cases a;obtain ⟨x,b,f⟩:=h 0 _ rfl;unfold szF;rw [Nat.add_zero] at b;rw [b];cases x<;>first | rfl | cases f
theorem z4z:E3.qlp good XK szK Tryz.prog szF cdA 8 3 8:=by
  intro e h;obtain rfl:=cd8 h;refine ⟨[.list 7],by kernel_rfl,λleaf a=>?_,rfl,by kernel_rfl,by decide,λps h=>?_⟩
  . simp only [zD,List.not_mem_nil,or_false] at a
    subst a;exact .inr ⟨7,rfl,z1g,z1h⟩
  . obtain ⟨_,_,rfl,⟨l,rfl,a,b⟩,rfl⟩:=h
    exact ⟨True,⟨l⟩,rfl,trivial,le_max a,b⟩
theorem body:∃ c,Tryz.f3.body=some c:=⟨_,rfl⟩
theorem contract (H:Type) (enc:TypeId×Value->H) (W:World) (base:Nat) (args:Array Value) (S gs:List (DataW H)) (before:List MemPlace)
    (a:∀ (j:Nat) t v,Tryz.f3.params[j]? = some t->args[j]? = some v->Value.okWide Tryz.prog W .any base t v)
    (T:DataW.Whole enc Tryz.prog Tryz.f3.params.toList Rows.bookTextsSpec.vars false W args.toList S gs before) (U:laidMetH Tryz.prog Rows.bookTextsRow.laid W) (k:W.ShapedOpen Tryz.prog) :
    Calls Tryz.prog 3 args W λe E=>∃ v,e=.returned v/\Rows.bookTextsSpec.post enc Tryz.prog Tryz.f3 false true false false W args v E:=by
  have G:=T;obtain ⟨p,q,I,_⟩:=T;have V:DataW.TrodAll enc Tryz.prog W 0 (λ_=>true) true Tryz.f3.params.toList args.toList S p:=I;rw [Tryz.params3] at V a;obtain ⟨X,Y,d1,d2,p1,p2,ha,rfl,rfl,Z,h2⟩:=trodAll_two V;subst ha;obtain ⟨cd,J⟩:=body;have hM:∀ n:Nat,¬ (λ_:Nat=>False) n:=λn h=>h;have y:=E3.z9o (W:=W) (F:=szF) (ng:=7) (zwg k);have K:∀ nm g x,E3.qgx W nm g=some x->nm<(E3.qfg W szF 7).ro:=by
    intro nm g x h;obtain ⟨_,L,e,fz,m,_⟩:=E3.qfq h;exact (Array.getElem?_eq_some_iff.1 m).1
  obtain ⟨pv,u,r,z,s⟩:=E3.zbc (C:=cfg sp) (ng:=7) (F:=szF) (cd:=cdA) (depth:=8) (n:=3) (good:=good) (M:=λ_=>False) zz hM (t:=24) (ls:=[.str,.list 8]) (λleaf hl=>by
    simp only [zD,List.not_mem_nil,or_false] at hl;rcases hl with rfl | rfl
    . exact .inl rfl
    . exact .inr ⟨8,rfl,z4z⟩) Tryz.underlying24 (by kernel_rfl) (a 0 24 X rfl rfl) Z
  obtain ⟨_,_,rfl,⟨nm,rfl,N⟩,_,_,rfl,⟨l,rfl,O,P⟩,rfl⟩:=r;obtain ⟨qv,u2,d,w,f⟩:=E3.zrl (C:=cfg sp) (ng:=7) (F:=szF) (cd:=cdA) (depth:=8) (n:=3) (good:=good) (M:=λ_=>False) zz hM (t:=9) (leaf:=.str) (.inl rfl) (by kernel_rfl) (by kernel_rfl) (a 1 9 Y rfl rfl) h2;obtain ⟨x,rfl,D⟩:=d;have A:E2.qq (E3.qgx W) W [u,u2] (#[X,Y]:Array Value).toList:=E2.qq.cons s (E2.qq.cons f E2.qq.nil);have i:E3.Start XK szK (cfg sp) (E3.qfg W szF 7) (λ_=>False):=by
    refine ⟨λn hn=>?_,⟨zN _,rfl,laid U k⟩,λn h=>h.elim,constants U k⟩;cases hg:(E3.qfg W szF 7).get n with
    | none=>rfl
    | some o=>
      obtain ⟨L,e,fz,m,_⟩:=E3.qtd hg;exact absurd (Array.getElem?_eq_some_iff.1 m).1 (Nat.not_lt.2 hn)
  have B:=zc1 quiet zxx z4d z4f z1c nm l x ⟨le_max N,le_max O,P,le_max D⟩ _ _ [u,u2] i (.cons z (.cons w .nil));refine (E2.zbn Tryz.checked.mixed bookAwake.tables z9p Tryz.func3 (by kernel_rfl) J y A B).mono λe E ⟨v,H',x,G',Q,he,D,st⟩=>?_;obtain ⟨w',Q⟩:=Q;have hr:=Q.rep;obtain rfl:v=.bool true:=by cases hr;rfl
  simp only [E2.Rel] at D;subst D;subst he;have c:∀ b,b<W.heap.size->E.heap[b]? = W.heap[b]?:=E3.zne st.ext;refine ⟨_,rfl,E3.q45 (t:=4) G rfl rfl Tryz.underlying4 rfl ⟨p1++p2,?_⟩ (λR=>st.ext.keptBut K R)⟩;rw [Tryz.params3];exact trodAll_mk2 (E3.q34 (by kernel_rfl) (by kernel_rfl) (Nat.le_of_ble_eq_true (by kernel_rfl)) Z c _ λb m=>decide_eq_true m) (E3.q34 (by kernel_rfl) (by kernel_rfl) (Nat.le_of_ble_eq_true (by kernel_rfl)) h2 c _ λb m=>decide_eq_true m)
theorem lifted (os:Os) (started:os.Started) (H:Type) (enc:TypeId×Value->H) (F:Stop.Interp) :
    ReturnsInHanded {} Tryz.checked os 3 .any ((OpenSpec.ofChange Rows.bookTextsSpec).preRow enc Tryz.prog Tryz.f3 Rows.bookTextsRow.domain false Rows.bookTextsRow.laid) (((OpenSpec.ofChange Rows.bookTextsSpec).at F).post enc Tryz.prog Tryz.f3 false true false false):=by
  obtain ⟨c,e⟩:=reads os enc;refine returnsInHanded_of_row (C:=Tryz.checked) (s:=OpenSpec.ofChange Rows.bookTextsSpec) own started (by kernel_rfl) Tryz.func3
    (witness_row_at (enc:=enc) (C:=Tryz.checked) false (qww os) wit rfl (by kernel_rfl) (by kernel_rfl) (by kernel_rfl)
      (OpenSpec.preRow_of_cond 8 e (by kernel_rfl) (λk f=>by cases f) (by kernel_rfl) (zt6 os))) ?_
  intro W base args g h a b i _ _ _ j d _;exact contract H enc W base args g h a b i j d
theorem said:Rows.BookTextsSaid:=
  OpenClaim.holds_of_cond 3 Tryz.f3 rfl rfl rfl rfl rfl rfl rfl ⟨rfl,rfl,rfl,rfl,rfl⟩ rfl rfl rfl rfl rfl (by kernel_rfl) Tryz.func3 (by kernel_rfl)
    (of_decide_eq_true (by kernel_rfl)) (by unfold Func.isWrapper;first | (rw [zT (by decide +kernel)];kernel_rfl) | (rw [zF (by decide +kernel)];exact ⟨rfl,rfl⟩))
    (λb a H enc _ F=>by rw [OpenClaim.pre_eq_preRow];exact lifted b a H enc F)
/-- No parameter wants a stand-in; the program's own looks. -/
theorem plain (f:FuncId) (fn:Func) (c:Tryz.pinned.checked.prog.funcNamed "tactus/tactuslaw39.BookTexts" = some f) (b:Tryz.pinned.checked.prog.funcs[f]? = some fn) :
    false=Tryz.pinned.checked.prog.looks []/\∀ (j:Nat) t,fn.params[j]? = some t->Tryz.pinned.checked.prog.wantsStandIn t=false:=by
  obtain rfl:f=3:=Option.some.inj ((show Tryz.prog.funcNamed "tactus/tactuslaw39.BookTexts" = some 3 by kernel_rfl).symm.trans c) |>.symm;obtain rfl:fn=Tryz.f3:=(Option.some.inj (Tryz.func3.symm.trans b)).symm;refine ⟨by kernel_rfl,λj t a=>?_⟩;rw [Tryz.params3] at a;have d:Tryz.pinned.checked.prog.wantsStandIn 24=false:=by kernel_rfl
  have e:Tryz.pinned.checked.prog.wantsStandIn 9=false:=by kernel_rfl
  rcases j with _ | _ | j
  . obtain rfl:24=t:=by simpa using a
    exact d
  . obtain rfl:9=t:=by simpa using a
    exact e
  . simp at a
/-- THE CARD. -/
theorem card:Rows.BookTextsCardSaid:=
  Claim7.holds_tied_plain_at .later [] _ _ _ _ said (λ_ h=>by cases h) (by kernel_rfl) (λ_ h=>by cases h) bookTexts_row_tie rfl ⟨rfl,rfl⟩ (by kernel_rfl) rfl plain (by kernel_rfl)
#print axioms card
end Go.Proofs.YtpgchdcifbaioaaGreatDoor.bookTexts
