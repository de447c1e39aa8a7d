/- THE LAW EventTexts of the chapter 21: the call returns true and nothing that was there before it is turned, whatever the arguments. No condition beyond its row's own: the listed variables read as the program's text lays them. -/
import Derived.Test.YtpbliaccnbgapaaGreatDoorCards
import Derived.Test.YtpbliaccnbgapaaGreatDoorTie
import Derived.Test.YtpbliaccnbgapaaGreatDoorFns
import Derived.Test.YtpbliaccnbgapaaGreatDoorM6
import Derived.Test.YtpbliaccnbgapaaGreatDoorEtItoa
import Derived.Test.YtpbliaccnbgapaaGreatDoorEventVars
import Derived.Test.YtpbliaccnbgapaaGreatDoorEventWit
import Derived.Test.YtpbliaccnbgapaaGreatDoorEventAwakeF
import Derived.WalkKit
import Derived.ProofKit
import Derived.OpenShut
import Derived.ChangeMaps5
import Derived.Deep.DeepHandedRow
namespace Go.Proofs.YtpbliaccnbgapaaGreatDoor.eventTexts
open Go.ChangeShapes Go.WideShapes Go.ChangeAt Go.RowKit Go.ChangeMaps
set_option maxRecDepth 100000
theorem own:ownKnob Tryz.prog.godebug=none:=by kernel_rfl
theorem q3g:eventAwake.qqu.qu7=true:=by kernel_rfl
theorem zcy:E2.qax Tryz.prog eventAwake.qqu.f eventAwake.qqu.q6v:=E2.q8n Tryz.checked.mixed eventAwake.tables eventAwake.zpt (by kernel_rfl) eventAwake.zfv
/-- The calls that are answered by facts: 'awake', strconv.Itoa. -/
noncomputable def sp (f:Nat):Option (List E2.V->E2.Heap->Option (E2.CR×E2.Heap)):=if f=5 then some eventAwake.qqu.q6v else if f=26 then some (E2.qq9 0 235) else none
theorem zo2:E3.ze7 (cfg sp):=fun f hf=>by
  show sp f=none
  unfold sp
  rw [zF,zF]
  . rintro rfl
    cases hf
  . rintro rfl
    cases hf
theorem quiet:E3.qm (cfg sp):=⟨zo2,E3.zl8 (C:=cfg sp) (F:=28) (tB:=63) (tS:=61) (tQ:=129) (tI:=3) (tU:=5) rfl rfl (by kernel_rfl) fun el h=>by
  have:=E3.qek h
  simp only [qlo,zD,zP,List.not_mem_nil,or_false] at this
  rcases this with ⟨h1,h2⟩ | ⟨h1,h2⟩ | ⟨h1,h2⟩ | ⟨h1,h2⟩ | ⟨h1,h2⟩ | ⟨h1,h2⟩ | ⟨h1,h2⟩<;>first | exact h1 | cases h2⟩
theorem zq3:∀ f s,sp f=some s->E2.qax Tryz.prog f s:=by
  intro f s h
  unfold sp at h
  split at h
  . rename_i hf
    cases h
    subst hf
    exact zcy
  . split at h
    . rename_i hf
      cases h
      subst hf
      exact zon
    . cases h
theorem zcx (H:E2.Heap) (hg:H.zh=(cfg sp).ng) (ho:∀ gn o,(cfg sp).gobj gn=some o->H.get gn=some o/\gn<H.next):E2.qcq (cfg sp).E (.func 5) [] H fun v H'=>v=.bool true/\H'=H:=
  E2.qux (s:=eventAwake.qqu.q6v) rfl (E2.zmn q3g hg fun x hx=>ho x.1 x.2 (E3.qng (by kernel_rfl) hx)) ⟨rfl,rfl⟩
theorem zju:E3.jm XK szK (cfg sp) 5 [] zdv:=E3.zg2 zq (v:=.bool true) .sb rfl zcx fun H M=>.sb .rfl .rfl fun h0=>absurd rfl h0
theorem zjv:E3.j8 XK szK (cfg sp) 5 ct5:=by
  intro ns pre r h hp
  unfold ct5 at h
  dsimp only at h
  split at h
  . cases h
    exact ⟨_,rfl,zju,E3.zd rfl⟩
  . cases h
theorem zhe (H:E2.Heap) (hg:H.zh=(cfg sp).ng) (ho:∀ gn o,(cfg sp).gobj gn=some o->H.get gn=some o/\gn<H.next) {n:Int} (h0:0<=n/\n<=9223372036854775807):E2.qcq (cfg sp).E (.func 26) [.int .i64 n] H fun v H'=>v=.str (qx n)/\H'=H:=by
  have h1:=ho 0 (E2.zp9 235) rfl
  have hg':H.zh=9:=hg
  refine E2.qux (s:=E2.qq9 0 235) rfl ?_ ⟨rfl,rfl⟩
  unfold E2.qq9
  simp only
  rw [zT ⟨h1.1,by omega,h1.2,by omega,by omega⟩]
  rfl
theorem zom {n:Int} (h0:0<=n/\n<=9223372036854775807):E3.jm XK szK (cfg sp) 26 [.int .i64 none n] (q21 n):=by
  intro H M vs S ra
  obtain ⟨v,vs',rfl,r1,r2⟩:=ra.zt
  have:=r2.kl;subst this
  cases r1
  refine (zhe H S.ro.2.1 S.ro.2.2 h0).mono fun u H' hA=>?_
  obtain ⟨rfl,rfl⟩:=hA
  let w':E3.Wd:={E3.wd0 H' M (cfg sp).codec with owns:=fun _=>some 0}
  have rv':E3.Rep XK szK w' (q21 n) (.str (qx n)):=E3.Rep.plain (w:=E3.wd0 H' M (cfg sp).codec) (w':=w') (zq (sp:=sp)).plain rfl (fun _ _ _ h=>h) .str .str
  exact ⟨w',.refl H',S.wf,rfl,fun n _=>.rfl,S.Mlt,rfl,rfl,fun _=>rfl,fun i nm he=>(by cases he),fun i j nm he=>(by cases he),rv'⟩
theorem zhf:E3.j8 XK szK (cfg sp) 26 q05:=by
  intro ns pre r h hp
  unfold q05 at h
  dsimp only at h
  split at h
  . cases h
    exact ⟨_,rfl,zom hp,E3.zd rfl⟩
  . cases h
theorem qa5:eventAwake.zh=[(0,.row (qu0.map E3.qeu) 235 0 0 0 true),(1,.row (qu1.map E3.qeu) 265 0 0 0 true),(8,.row (qu2.map E3.qeu) 319 0 0 0 true)]:=by kernel_rfl
/-- The variables lie there. -/
theorem laid {W:World} (hL:laidMetH Tryz.prog Rows.eventTextsRow.laid W) (hsh:W.ShapedOpen Tryz.prog) (gn:Nat) (o:E2.O) (h:(cfg sp).gobj gn=some o):(E3.qis W 9).get gn=some o/\gn<(E3.qis W 9).next:=by
  have hL':laidMet Tryz.prog Rows.eventTextsRow.laid W:=by
    unfold laidMetH at hL
    rw [zef] at hL
    exact hL
  have hm:=E3.qek (show E3.look eventAwake.zh gn=some o from h)
  have hsz:=zbh hsh
  rw [qa5] at hm
  simp only [zD,zP,List.not_mem_nil,or_false] at hm
  rcases hm with ⟨rfl,rfl⟩ | ⟨rfl,rfl⟩ | ⟨rfl,rfl⟩
  . exact ⟨E3.qmr (zpv hL' hsh),show 0<W.heap.size by omega⟩
  . exact ⟨E3.qmr (zpw hL' hsh),show 1<W.heap.size by omega⟩
  . exact ⟨E3.qmr (zpx hL' hsh),show 8<W.heap.size by omega⟩
/-! ### The arguments: a list of events, a text -/
def good:∀ c,KT c->Prop
  | 11=>fun x=>x.Sign<=9223372036854775807/\x.Pass<=9223372036854775807
  | _=>fun _=>True
def cdA:Nat->Option Nat:=E3.look [(43,11)]
theorem zmz:E3.ArgOk good XK szK Tryz.prog cdA 8:=by
  refine ⟨fun e c h=>?_⟩
  have:=E3.qek h
  simp only [zD,zP,List.not_mem_nil,or_false] at this
  obtain ⟨rfl,rfl⟩:=this
  refine ⟨[.int .i64,.int .i64,.int .i64,.int .i64,.int .i64,.int .i64,.int .i64,.bool,.int .i64,.int .i64],by kernel_rfl,rfl,rfl,by kernel_rfl,by decide,fun ps h=>?_⟩
  obtain ⟨p0,q0,rfl,⟨n0,rfl,_⟩,p1,q1,rfl,⟨n1,rfl,_⟩,p2,q2,rfl,⟨n2,rfl,_⟩,p3,q3,rfl,⟨n3,rfl,_⟩,p4,q4,rfl,⟨n4,rfl,_⟩,p5,q5,rfl,⟨n5,rfl,_⟩,p6,q6,rfl,⟨n6,rfl,_⟩,p7,q7,rfl,⟨n7,rfl⟩,p8,q8,rfl,⟨n8,rfl,_,b8⟩,p9,q9,rfl,⟨n9,rfl,_,b9⟩,rfl⟩:=h
  exact ⟨True,⟨n0,n1,n2,n3,n4,n5,n6,n7,n8,n9⟩,rfl,trivial,b8,b9⟩
theorem body:∃ c,Tryz.f3.body=some c:=⟨_,rfl⟩
theorem contract (H:Type) (enc:TypeId×Value->H) (W:World) (base:Nat) (args:Array Value) (ds gs:List (DataW H)) (before:List MemPlace)
    (hval:∀ (j:Nat) t v,Tryz.f3.params[j]? = some t->args[j]? = some v->Value.okWide Tryz.prog W .any base t v)
    (hW:DataW.Whole enc Tryz.prog Tryz.f3.params.toList Rows.eventTextsSpec.vars false W args.toList ds gs before) (hL:laidMetH Tryz.prog Rows.eventTextsRow.laid W) (hsh:W.ShapedOpen Tryz.prog) :
    Calls Tryz.prog 3 args W fun e W'=>∃ v,e=.returned v/\Rows.eventTextsSpec.post enc Tryz.prog Tryz.f3 false true false false W args v W':=by
  have hW':=hW
  obtain ⟨p,q,hA0,_⟩:=hW
  have hA:DataW.TrodAll enc Tryz.prog W 0 (fun _=>true) true Tryz.f3.params.toList args.toList ds p:=hA0
  rw [Tryz.params3] at hA hval
  obtain ⟨v1,v2,d1,d2,p1,p2,ha,rfl,rfl,h1,h2⟩:=trodAll_two hA
  subst ha
  obtain ⟨cd,hcd⟩:=body
  have hM:∀ n:Nat,¬ (fun _:Nat=>False) n:=fun n h=>h
  have hsim:=E3.zq2 (W:=W) (ng:=9) (zbh hsh)
  have hlt:∀ nm g x,E3.qcz W nm g=some x->nm<(E3.qis W 9).ro:=by
    intro nm g x h
    obtain ⟨_,arr,e,fz,hb,_⟩:=E3.qa2 h
    exact (Array.getElem?_eq_some_iff.1 hb).1
  obtain ⟨pv,u,hleaf,hrep,hrelu⟩:=E3.q96 (C:=cfg sp) (ng:=9) (M:=fun _=>False) jc zmz hM (t:=22) (leaf:=.list 11) (by kernel_rfl) (by kernel_rfl) (hval 0 22 v1 rfl rfl) h1
  obtain ⟨l,rfl,hll,hgl⟩:=hleaf
  obtain ⟨qv,u2,hleaf2,hrep2,hrelu2⟩:=E3.q96 (C:=cfg sp) (ng:=9) (M:=fun _=>False) jc zmz hM (t:=9) (leaf:=.str) (by kernel_rfl) (by kernel_rfl) (hval 1 9 v2 rfl rfl) h2
  obtain ⟨s2,rfl,hln2⟩:=hleaf2
  have hrel:E2.ql (E3.qcz W) W [u,u2] (#[v1,v2]:Array Value).toList:=E2.ql.cons hrelu (E2.ql.cons hrelu2 E2.ql.nil)
  have hstart:E3.Start XK szK (cfg sp) (E3.qis W 9) (fun _=>False):=by
    refine ⟨fun n hn=>?_,⟨zN _,rfl,laid hL hsh⟩,fun n h=>h.elim,fun gn ps h=>by cases h⟩
    cases hg:(E3.qis W 9).get n with
    | none=>rfl
    | some o=>
      obtain ⟨arr,e,fz,hb,_⟩:=E3.qn8 hg
      exact absurd (Array.getElem?_eq_some_iff.1 hb).1 (Nat.not_lt.2 hn)
  have hrun:=q42 quiet zjv zhf l s2 ⟨Int.le_trans (Int.ofNat_le.2 hll) (by decide),Int.le_trans (Int.ofNat_le.2 hln2) (by decide),hgl⟩ _ _ [u,u2] hstart (.cons hrep (.cons hrep2 .nil))
  refine (E2.q3n Tryz.checked.mixed eventAwake.tables zq3 Tryz.func3 (by kernel_rfl) hcd hsim hrel hrun).mono fun e W' ⟨v,H',x,G',hR,he,hx,st⟩=>?_
  obtain ⟨w',hR⟩:=hR
  have hr:=hR.rep
  obtain rfl:v=.bool true:=by cases hr;rfl
  simp only [E2.Rel] at hx
  subst hx
  subst he
  have hsame:∀ b,b<W.heap.size->W'.heap[b]? = W.heap[b]?:=E3.zdf st.ext
  refine ⟨_,rfl,E3.qx4 (t:=4) hW' rfl rfl Tryz.underlying4 rfl ⟨p1++p2,?_⟩ (fun may=>st.ext.keptBut hlt may)⟩
  rw [Tryz.params3]
  exact trodAll_mk2 (E3.qxd (by kernel_rfl) (by kernel_rfl) (Nat.le_of_ble_eq_true (by kernel_rfl)) h1 hsame _ fun b hb=>decide_eq_true hb) (E3.qxd (by kernel_rfl) (by kernel_rfl) (Nat.le_of_ble_eq_true (by kernel_rfl)) h2 hsame _ fun b hb=>decide_eq_true hb)
theorem lifted (os:Os) (started:os.Started) (H:Type) (enc:TypeId×Value->H) (F:Stop.Interp) :
    ReturnsInHanded {} Tryz.checked os 3 .any ((OpenSpec.ofChange Rows.eventTextsSpec).preRow enc Tryz.prog Tryz.f3 Rows.eventTextsRow.domain false Rows.eventTextsRow.laid) (((OpenSpec.ofChange Rows.eventTextsSpec).at F).post enc Tryz.prog Tryz.f3 false true false false):=by
  obtain ⟨places,hx⟩:=reads os enc
  refine returnsInHanded_of_row (C:=Tryz.checked) (s:=OpenSpec.ofChange Rows.eventTextsSpec) own started (by kernel_rfl) Tryz.func3
    (witness_row_at (enc:=enc) (C:=Tryz.checked) false (qra os) wit rfl (by kernel_rfl) (by kernel_rfl) (by kernel_rfl)
      (OpenSpec.preRow_of_cond 8 hx (by kernel_rfl) (fun k hk=>by cases hk) (by kernel_rfl) (zhk os))) ?_
  intro W base args ds gs before hval hW _ _ _ hL hsh _
  exact contract H enc W base args ds gs before hval hW hL hsh
theorem said:Rows.EventTextsSaid:=
  OpenClaim.holds_of_cond 3 Tryz.f3 rfl rfl rfl rfl rfl rfl rfl ⟨rfl,rfl,rfl,rfl,rfl⟩ rfl rfl rfl rfl rfl (by kernel_rfl) Tryz.func3 (by kernel_rfl)
    (of_decide_eq_true (by kernel_rfl)) (by unfold Func.isWrapper;first | (rw [zT (by decide +kernel)];kernel_rfl) | (rw [zF (by decide +kernel)];exact ⟨rfl,rfl⟩))
    (fun os started H enc _ F=>by rw [OpenClaim.pre_eq_preRow];exact lifted os started H enc F)
/-- No parameter wants a stand-in; the program's own looks. -/
theorem plain (f:FuncId) (fn:Func) (hf:Tryz.pinned.checked.prog.funcNamed "tactus/tactuslaw21.EventTexts" = some f) (hfn:Tryz.pinned.checked.prog.funcs[f]? = some fn) :
    true=Tryz.pinned.checked.prog.looks []/\∀ (j:Nat) t,fn.params[j]? = some t->Tryz.pinned.checked.prog.wantsStandIn t=false:=by
  obtain rfl:f=3:=Option.some.inj ((show Tryz.prog.funcNamed "tactus/tactuslaw21.EventTexts" = some 3 by kernel_rfl).symm.trans hf) |>.symm
  obtain rfl:fn=Tryz.f3:=(Option.some.inj (Tryz.func3.symm.trans hfn)).symm
  refine ⟨by kernel_rfl,fun j t ht=>?_⟩
  rw [Tryz.params3] at ht
  have q0:Tryz.pinned.checked.prog.wantsStandIn 22=false:=by kernel_rfl
  have q1:Tryz.pinned.checked.prog.wantsStandIn 9=false:=by kernel_rfl
  rcases j with _ | _ | j
  . obtain rfl:22=t:=by simpa using ht
    exact q0
  . obtain rfl:9=t:=by simpa using ht
    exact q1
  . simp at ht
/-- THE CARD. -/
theorem card:Rows.EventTextsCardSaid:=
  Claim7.holds_tied_plain_at .later [] _ _ _ _ said (fun _ h=>by cases h) (by kernel_rfl) (fun _ h=>by cases h) eventTexts_row_tie rfl ⟨rfl,rfl⟩ (by kernel_rfl) rfl plain (by kernel_rfl)
#print axioms card
end Go.Proofs.YtpbliaccnbgapaaGreatDoor.eventTexts
