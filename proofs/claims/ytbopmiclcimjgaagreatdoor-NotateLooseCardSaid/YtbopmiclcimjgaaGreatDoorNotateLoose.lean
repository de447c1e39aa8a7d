/- THE LAW NotateLoose of the chapter 10: the call returns true and nothing that was there before it is turned, whatever the arguments. No condition beyond its row's own: the listed variables read as the program's text lays them. -/
import Derived.Test.YtbopmiclcimjgaaGreatDoorCards
import Derived.Test.YtbopmiclcimjgaaGreatDoorTie
import Derived.Test.YtbopmiclcimjgaaGreatDoorFns
import Derived.Test.YtbopmiclcimjgaaGreatDoorM6
import Derived.Test.YtbopmiclcimjgaaGreatDoorNotateAwakeRun
import Derived.Test.YtbopmiclcimjgaaGreatDoorNotateItoa
import Derived.WalkKit
import Derived.ProofKit
import Derived.OpenShut
import Derived.ChangeMaps5
import Derived.Deep.DeepHandedRow
namespace Go.Proofs.YtbopmiclcimjgaaGreatDoor.notateLoose
open Go.ChangeShapes Go.WideShapes Go.ChangeAt Go.RowKit Go.ChangeMaps
set_option maxRecDepth 100000

theorem own:ownKnob Tryz.prog.godebug=none:=by kernel_rfl
theorem q4y:notateAwake.qse.qw0=true:=by kernel_rfl
theorem zeb:E2.ke Tryz.prog notateAwake.qse.f notateAwake.qse.qz3:=E2.qxu Tryz.checked.mixed notateAwake.tables notateAwake.zty (by kernel_rfl) notateAwake.zhr

/-- The calls that are answered by facts: 'NotateKnown', 'strconv.Itoa' at the numbers of signs. -/
def sp (f:Nat):Option (List E2.V->E2.Heap->Option (E2.CR×E2.Heap)):=if f=20 then some notateAwake.qse.qz3 else if f=117 then some notateAwake.spI else none
theorem zsf:E3.zg3 (cfg sp):=fun f hf=>by
  show sp f=none
  unfold sp
  rw [zF,zF]
  . rintro rfl
    cases hf
  . rintro rfl
    cases hf
theorem quiet:E3.zd (cfg sp):=⟨zsf,E3.zox (C:=cfg sp) (F:=35) (tB:=70) (tS:=68) (tQ:=128) (tI:=3) (tU:=5) rfl rfl (by kernel_rfl) fun el h=>by
  have:=E3.qes h
  simp only [qmu,zD,zP,List.not_mem_nil,or_false] at this
  rcases this with ⟨h1,h2⟩ | ⟨h1,h2⟩ | ⟨h1,h2⟩ | ⟨h1,h2⟩ | ⟨h1,h2⟩ | ⟨h1,h2⟩<;>first | exact h1 | cases h2⟩
theorem zwu:∀ f s,sp f=some s->E2.ke Tryz.prog f s:=by
  intro f s h
  unfold sp at h
  split at h
  . rename_i hf
    cases h
    subst hf
    exact zeb
  . split at h
    . rename_i hf
      cases h
      subst hf
      exact notateAwake.ztx
    . cases h
theorem zea (H:E2.Heap) (hg:H.qz=(cfg sp).ng) (ho:∀ gn o,(cfg sp).gobj gn=some o->H.get gn=some o/\gn<H.next):E2.qcr (cfg sp).E (.func 20) [] H fun v H'=>v=.bool true/\H'=H:=
  E2.qwr (s:=notateAwake.qse.qz3) rfl (E2.zpf q4y hg fun x hx=>ho x.1 x.2 (E3.qox (by kernel_rfl) hx)) ⟨rfl,rfl⟩
theorem zmr:E3.qbu XK szK (cfg sp) 20 [] ze8:=E3.zin jx (v:=.bool true) .sb rfl zea fun H M=>.sb .rfl .rfl fun h0=>absurd rfl h0
theorem zms:E3.qcp XK szK (cfg sp) 20 zm2:=by
  intro ns pre r h hp
  unfold zm2 at h
  dsimp only at h
  split at h
  . cases h
    exact ⟨_,rfl,zmr,E3.zz rfl⟩
  . cases h
theorem zi5 (H:E2.Heap) (hg:H.qz=(cfg sp).ng) (ho:∀ gn o,(cfg sp).gobj gn=some o->H.get gn=some o/\gn<H.next) {n:Int} (h0:-4<=n) (h1:n<=100):E2.qcr (cfg sp).E (.func 117) [.int .i64 n] H fun v H'=>v=.str (zf n)/\H'=H:=by
  have h4:=ho 4 notateAwake.qur rfl
  exact E2.qwr (s:=notateAwake.spI) rfl (notateAwake.zsw h0 h1 hg h4.1 h4.2) ⟨rfl,rfl⟩
theorem zrm {n:Int} (h0:-4<=n) (h1:n<=100):E3.qbu XK szK (cfg sp) 117 [.int .i64 none n] (q4j n):=by
  intro H M vs S ra
  obtain ⟨v,vs',rfl,r1,r2⟩:=ra.zs
  have:=r2.kj;subst this
  cases r1
  refine (zi5 H S.ro.2.1 S.ro.2.2 h0 h1).mono fun u H' hA=>?_
  obtain ⟨rfl,rfl⟩:=hA
  let w':E3.Wd:={E3.wd0 H' M (cfg sp).codec with owns:=fun _=>some 0}
  have rv':E3.Rep XK szK w' (q4j n) (.str (zf n)):=E3.Rep.plain (w:=E3.wd0 H' M (cfg sp).codec) (w':=w') (jx (sp:=sp)).plain rfl (fun _ _ _ h=>h) .str .str
  exact ⟨w',.refl H',S.wf,rfl,fun n _=>.rfl,S.Mlt,rfl,rfl,fun _=>rfl,fun i nm he=>(by cases he),fun i j nm he=>(by cases he),rv'⟩
theorem zrn:E3.qcp XK szK (cfg sp) 117 qmw:=by
  intro ns pre r h hp
  unfold qmw at h
  dsimp only at h
  split at h
  . cases h
    exact ⟨_,rfl,zrm hp.1 hp.2,E3.zz rfl⟩
  . cases h

/-! ### The listed variables -/
theorem qwx {a b:Array Value} {t t':TypeId} {f f':Nat×Nat} (h:some (Obj.cells a t f)=some (Obj.cells b t' f')):t=t':=by
  cases h
  rfl
theorem globals:Tryz.prog.globals.size=7:=by kernel_rfl
theorem zfx:(Rows.notateLooseRow.laid.filter fun x=>x.2.handleName?.isSome)=[]:=by kernel_rfl
noncomputable def qmt:List Value:=(E2.qj1 Tryz.prog 10 115 Rows.laid_tactus_sign_uses).getD []
theorem ztk:E2.qj1 Tryz.prog 10 115 Rows.laid_tactus_sign_uses=some qmt:=by kernel_rfl
theorem zvc:qmt≠[]:=by
  intro h
  have:qmt.isEmpty=false:=by kernel_rfl
  rw [h] at this
  cases this
theorem zr5:Tryz.prog.globalNamed "tactus/sign.uses" = some 0:=by kernel_rfl
theorem zs2:(Tryz.prog.globals[0]?).map (·.type)=some 115:=by kernel_rfl
theorem zwf:((((begin Tryz.prog (fun _ _=>0) default).world).heap[0]?).bind Obj.row?).map (·.2)=some 115:=by kernel_rfl
theorem zn4:("tactus/sign.uses",Rows.laid_tactus_sign_uses) ∈ Rows.notateLooseRow.laid:=by
  exact List.mem_of_getElem? (i:=4) rfl
theorem zpx {W:World} (hL:laidMet Tryz.prog Rows.notateLooseRow.laid W) (hsh:W.ShapedOpen Tryz.prog):W.heap[0]? = some (.cells qmt.toArray 115 (0,0)):=by
  obtain ⟨ps,h1,_,h2⟩:=hL
  obtain ⟨t',h3⟩:=E2.qpt h1 (fun b off hb=>(h2 b off hb).1) (name:= "tactus/sign.uses") (d:=Rows.laid_tactus_sign_uses) zn4 zr5 zs2 ztk zvc
  have h4:=zwf
  obtain ⟨⟨zero,t⟩,h5,h6⟩:=zM.1 h4
  simp only at h6
  subst h6
  obtain ⟨cs,h7,_⟩:=hsh.1 0 zero 115 (by rw [globals];decide) h5
  have h9:=qwx (h3.symm.trans h7)
  rw [h9] at h3
  exact h3
noncomputable def qwu:List Value:=(E2.qj1 Tryz.prog 10 183 Rows.laid_internal_strconv_uint64pow10).getD []
theorem ztl:E2.qj1 Tryz.prog 10 183 Rows.laid_internal_strconv_uint64pow10=some qwu:=by kernel_rfl
theorem zvd:qwu≠[]:=by
  intro h
  have:qwu.isEmpty=false:=by kernel_rfl
  rw [h] at this
  cases this
theorem zr6:Tryz.prog.globalNamed "internal/strconv.uint64pow10" = some 4:=by kernel_rfl
theorem zs3:(Tryz.prog.globals[4]?).map (·.type)=some 183:=by kernel_rfl
theorem zwg:((((begin Tryz.prog (fun _ _=>0) default).world).heap[4]?).bind Obj.row?).map (·.2)=some 183:=by kernel_rfl
theorem zn5:("internal/strconv.uint64pow10",Rows.laid_internal_strconv_uint64pow10) ∈ Rows.notateLooseRow.laid:=by
  exact List.mem_of_getElem? (i:=2) rfl
theorem zt1 {W:World} (hL:laidMet Tryz.prog Rows.notateLooseRow.laid W) (hsh:W.ShapedOpen Tryz.prog):W.heap[4]? = some (.cells qwu.toArray 183 (0,0)):=by
  obtain ⟨ps,h1,_,h2⟩:=hL
  obtain ⟨t',h3⟩:=E2.qpt h1 (fun b off hb=>(h2 b off hb).1) (name:= "internal/strconv.uint64pow10") (d:=Rows.laid_internal_strconv_uint64pow10) zn5 zr6 zs3 ztl zvd
  have h4:=zwg
  obtain ⟨⟨zero,t⟩,h5,h6⟩:=zM.1 h4
  simp only at h6
  subst h6
  obtain ⟨cs,h7,_⟩:=hsh.1 4 zero 183 (by rw [globals];decide) h5
  have h9:=qwx (h3.symm.trans h7)
  rw [h9] at h3
  exact h3
theorem zwh:((((begin Tryz.prog (fun _ _=>0) default).world).heap[6]?).bind Obj.row?).map (·.2)=some 189:=by kernel_rfl
theorem zlu {W:World} (hsh:W.ShapedOpen Tryz.prog):7<=W.heap.size:=by
  obtain ⟨⟨zero,t⟩,h5,h6⟩:=zM.1 zwh
  obtain ⟨cs,h7,_⟩:=hsh.1 6 zero t (by rw [globals];decide) h5
  exact (Array.getElem?_eq_some_iff.1 h7).1
theorem qa8:notateAwake.qz=[(0,.row (qmt.map E3.qe7) 115 0 0 0 false),(4,.row (qwu.map E3.qe7) 183 0 0 0 false)]:=by kernel_rfl
theorem toText {W:World} (hL:laidMetH Tryz.prog Rows.notateLooseRow.laid W):laidMet Tryz.prog Rows.notateLooseRow.laid W:=by
  unfold laidMetH at hL
  rw [zfx] at hL
  exact hL
/-- The variables lie there. -/
theorem laid {W:World} (hL:laidMetH Tryz.prog Rows.notateLooseRow.laid W) (hsh:W.ShapedOpen Tryz.prog) (gn:Nat) (o:E2.O) (h:(cfg sp).gobj gn=some o):(E3.qfo W 7).get gn=some o/\gn<(E3.qfo W 7).next:=by
  have hm:=E3.qes (show E3.look notateAwake.qz gn=some o from h)
  have hsz:=zlu hsh
  rw [qa8] at hm
  simp only [zD,zP,List.not_mem_nil,or_false] at hm
  rcases hm with ⟨rfl,rfl⟩ | ⟨rfl,rfl⟩
  . exact ⟨E3.qn4 (zpx (toText hL) hsh),show 0<W.heap.size by omega⟩
  . exact ⟨E3.qn4 (zt1 (toText hL) hsh),show 4<W.heap.size by omega⟩
/-- The fields that are used, as truth values. -/
noncomputable def zqa:List Bool:=qmt.map fun
  | .bool b=>b
  | _=>false
theorem zvl:q6d 0=some (zqa.map E3.P.lit):=by kernel_rfl
theorem zvm:qmt.map E3.qe7=zqa.map E2.V.bool:=by kernel_rfl
theorem constants {W:World} (hL:laidMetH Tryz.prog Rows.notateLooseRow.laid W) (hsh:W.ShapedOpen Tryz.prog) (gn:Nat) (ps:List (E3.PV KT)) (h:(cfg sp).qz gn=some ps) :
    gn<(E3.qfo W 7).qz/\∃ vs e fl fz ex,(E3.qfo W 7).get gn=some (.row vs e 0 fl fz ex)/\gn<(E3.qfo W 7).next/\E3.Rep XK szK (E3.wd0 (E3.qfo W 7) (fun _=>False) (cfg sp).codec) (.eptr ps 0) (.ptr gn 0 0 vs.length):=by
  have h':q6d gn=some ps:=h
  have hg:gn=0:=by
    rcases gn with _ | gn
    . rfl
    . cases h'
  subst hg
  rw [zvl] at h'
  cases h'
  have hrow:(E3.qfo W 7).get 0=some (.row (qmt.map E3.qe7) 115 0 0 0 false):=E3.qn4 (zpx (toText hL) hsh)
  rw [zvm] at hrow
  refine ⟨show 0<7 by decide,_,_,_,_,_,hrow,show 0<W.heap.size by have:=zlu hsh;omega,?_⟩
  refine E3.Rep.eptr (d:=0) (off:=0) hrow (zN 0) (fun h=>h) (by rw [List.length_map,List.length_map];exact Nat.le_of_eq (Nat.zero_add _)) (zN _) (fun j p hp=>?_)
  rw [List.getElem?_map] at hp
  obtain ⟨b,hb,rfl⟩:=zM.1 hp
  rw [Nat.zero_add,List.getD_eq_getElem?_getD,List.getElem?_map,hb]
  exact .lit

/-! ### The arguments: lists of numbers among them -/
def good:∀ c,KT c->Prop
  | 1=>fun n=>E3.I64 n
  | _=>fun _=>True
def cdA:Nat->Option Nat:=E3.look [(3,1)]
theorem zps:E3.ArgOk good XK szK Tryz.prog cdA 8:=by
  refine ⟨fun e c h=>?_⟩
  have:=E3.qes h
  simp only [zD,zP,List.not_mem_nil,or_false] at this
  obtain ⟨rfl,rfl⟩:=this
  refine ⟨[.int .i64],by kernel_rfl,rfl,rfl,by kernel_rfl,by decide,fun ps h=>?_⟩
  obtain ⟨p,qs,rfl,⟨n,rfl,h1,h2⟩,rfl⟩:=h
  exact ⟨True,n,rfl,trivial,h1,h2⟩

theorem body:∃ c,Tryz.f7.body=some c:=⟨_,rfl⟩

theorem contract (H:Type) (enc:TypeId×Value->H) (W:World) (base:Nat) (args:Array Value) (ds gs:List (DataW H)) (before:List MemPlace)
    (hval:∀ (j:Nat) t v,Tryz.f7.params[j]? = some t->args[j]? = some v->Value.okWide Tryz.prog W .any base t v)
    (hW:DataW.Whole enc Tryz.prog Tryz.f7.params.toList Rows.notateLooseSpec.vars false W args.toList ds gs before) (hL:laidMetH Tryz.prog Rows.notateLooseRow.laid W) (hsh:W.ShapedOpen Tryz.prog) :
    Calls Tryz.prog 7 args W fun e W'=>∃ v,e=.returned v/\Rows.notateLooseSpec.post enc Tryz.prog Tryz.f7 false true false false W args v W':=by
  have hW':=hW
  obtain ⟨p,q,hA0,_⟩:=hW
  have hA:DataW.TrodAll enc Tryz.prog W 0 (fun _=>true) true Tryz.f7.params.toList args.toList ds p:=hA0
  rw [Tryz.params7] at hA hval
  obtain ⟨v1,v2,d1,d2,p1,p2,ha,rfl,rfl,h1,h2⟩:=trodAll_two hA
  subst ha
  obtain ⟨cd,hcd⟩:=body
  have hM:∀ n:Nat,¬ (fun _:Nat=>False) n:=fun n h=>h
  have hsim:=E3.zwt (W:=W) (ng:=7) (zlu hsh)
  have hlt:∀ nm g x,E3.qdz W nm g=some x->nm<(E3.qfo W 7).ro:=by
    intro nm g x h
    obtain ⟨_,arr,e,fz,hb,_⟩:=E3.qa3 h
    exact (Array.getElem?_eq_some_iff.1 hb).1
  obtain ⟨q1,u1,hl1,hrep1,hrelu1⟩:=E3.za9 (C:=cfg sp) (ng:=7) (M:=fun _=>False) qbv zps hM (t:=47) (leaf:=.list 1) (by kernel_rfl) (by kernel_rfl) (hval 0 47 v1 rfl rfl) h1
  obtain ⟨l1,rfl,hll1,hgl1⟩:=hl1
  obtain ⟨q2,u2,hl2,hrep2,hrelu2⟩:=E3.za9 (C:=cfg sp) (ng:=7) (M:=fun _=>False) qbv zps hM (t:=47) (leaf:=.list 1) (by kernel_rfl) (by kernel_rfl) (hval 1 47 v2 rfl rfl) h2
  obtain ⟨l2,rfl,hll2,hgl2⟩:=hl2
  have hrel:E2.qi (E3.qdz W) W [u1,u2] (#[v1,v2]:Array Value).toList:=E2.qi.cons hrelu1 (E2.qi.cons hrelu2 E2.qi.nil)
  have hstart:E3.Start XK szK (cfg sp) (E3.qfo W 7) (fun _=>False):=by
    refine ⟨fun n hn=>?_,⟨zN _,rfl,laid hL hsh⟩,fun n h=>h.elim,constants hL hsh⟩
    cases hg:(E3.qfo W 7).get n with
    | none=>rfl
    | some o=>
      obtain ⟨arr,e,fz,hb,_⟩:=E3.qpo hg
      exact absurd (Array.getElem?_eq_some_iff.1 hb).1 (Nat.not_lt.2 hn)
  have hrun:=q6k quiet zms zrn l1 l2 ⟨⟨(Int.le_trans (Int.ofNat_le.2 hll1) (by decide)),hgl1⟩,(Int.le_trans (Int.ofNat_le.2 hll2) (by decide)),hgl2⟩ _ _ [u1,u2] hstart (.cons hrep1 (.cons hrep2 .nil))
  refine (E2.q45 Tryz.checked.mixed notateAwake.tables zwu Tryz.func7 (by kernel_rfl) hcd hsim hrel hrun).mono fun e W' ⟨v,H',x,G',hR,he,hx,st⟩=>?_
  obtain ⟨w',hR⟩:=hR
  have hr:=hR.rep
  obtain rfl:v=.bool true:=by cases hr;rfl
  simp only [E2.Rel] at hx
  subst hx
  subst he
  have hsame:∀ b,b<W.heap.size->W'.heap[b]? = W.heap[b]?:=E3.zet st.ext
  refine ⟨_,rfl,E3.qzv (t:=4) hW' rfl rfl Tryz.underlying4 rfl ⟨p1++p2,?_⟩ (fun may=>st.ext.keptBut hlt may)⟩
  rw [Tryz.params7]
  exact trodAll_mk2 (E3.qy6 (by kernel_rfl) (by kernel_rfl) (Nat.le_of_ble_eq_true (by kernel_rfl)) h1 hsame _ fun b hb=>decide_eq_true hb) (E3.qy6 (by kernel_rfl) (by kernel_rfl) (Nat.le_of_ble_eq_true (by kernel_rfl)) h2 hsame _ fun b hb=>decide_eq_true hb)

/-- A WORLD FOR THE WITNESS: the settled one, the tables as their initialisers lay them. -/
def qxn:Nat->DataW Unit->List Value
  | n+1,.agg l=>l.flatMap (qxn n)
  | _+1,.lit (.int k i)=>[.int k i]
  | _+1,.lit (.bool b)=>[.bool b]
  | _+1,.lit (.string s)=>[.string ⟨s.toArray⟩]
  | _,_=>[]
def lay (g:Nat) (cs:List Value) (heap:Array Obj):Array Obj:=
  heap.modify g fun
    | .cells _ t frozen=>.cells cs.toArray t frozen
    | o=>o
def wit:Array Value:=#[.slice none 0 0,.slice none 0 0]
noncomputable def qsy (os:Os):World:=
  {World.holding Tryz.prog os ⟨#[],wit,[]⟩ with heap:=(lay 6 (qxn 8 Rows.laid_math_bits_deBruijn64tab) (lay 5 (qxn 8 Rows.laid_math_bits_deBruijn32tab) (lay 4 (qxn 8 Rows.laid_internal_strconv_uint64pow10) (lay 3 (qxn 8 Rows.laid_unicode_utf8_acceptRanges) (lay 2 (qxn 8 Rows.laid_unicode_utf8_first) (lay 0 (qxn 8 Rows.laid_tactus_sign_uses) ((World.holding Tryz.prog os ⟨#[],wit,[]⟩).heap)))))))}
theorem zjd (os:Os):laidMet Tryz.prog Rows.notateLooseRow.laid ((qsy os).forCall (fun _ _=>0) ⟨#[],wit,[]⟩).memory:=
  laidMet_of_run' 8 (by kernel_rfl) (by kernel_rfl)
theorem reads (os:Os) {H:Type} (enc:TypeId×Value->H):∃ places,DataW.whole enc Tryz.prog ((qsy os).forCall (fun _ _=>0) ⟨#[],wit,[]⟩).memory Tryz.f7.params.toList Rows.notateLooseSpec.vars false wit.toList 8=some ([.nil,.nil],[],places):=
  ⟨[],by kernel_rfl⟩

theorem lifted (os:Os) (started:os.Started) (H:Type) (enc:TypeId×Value->H) (F:Stop.Interp) :
    ReturnsInHanded {} Tryz.checked os 7 .any ((OpenSpec.ofChange Rows.notateLooseSpec).preRow enc Tryz.prog Tryz.f7 Rows.notateLooseRow.domain false Rows.notateLooseRow.laid) (((OpenSpec.ofChange Rows.notateLooseSpec).at F).post enc Tryz.prog Tryz.f7 false true false false):=by
  obtain ⟨places,hx⟩:=reads os enc
  refine returnsInHanded_of_row (C:=Tryz.checked) (s:=OpenSpec.ofChange Rows.notateLooseSpec) own started (by kernel_rfl) Tryz.func7
    (witness_row_at (enc:=enc) (C:=Tryz.checked) false (qsy os) wit rfl (by kernel_rfl) (by kernel_rfl) (by kernel_rfl)
      (OpenSpec.preRow_of_cond 8 hx (by kernel_rfl) (fun k hk=>by cases hk) (by kernel_rfl) (zjd os))) ?_
  intro W base args ds gs before hval hW _ _ _ hL hsh _
  exact contract H enc W base args ds gs before hval hW hL hsh

theorem said:Rows.NotateLooseSaid:=
  OpenClaim.holds_of_cond 7 Tryz.f7 rfl rfl rfl rfl rfl rfl rfl ⟨rfl,rfl,rfl,rfl,rfl⟩ rfl rfl rfl rfl rfl (by kernel_rfl) Tryz.func7 (by kernel_rfl)
    (of_decide_eq_true (by kernel_rfl)) (by unfold Func.isWrapper;first | (rw [zT (by decide +kernel)];kernel_rfl) | (rw [zF (by decide +kernel)];exact ⟨rfl,rfl⟩))
    (fun os started H enc _ F=>by rw [OpenClaim.pre_eq_preRow];exact lifted os started H enc F)

/-- No parameter wants a stand-in; the program's own looks. -/
theorem plain (f:FuncId) (fn:Func) (hf:Tryz.pinned.checked.prog.funcNamed "tactus/tactuslaw10.NotateLoose" = some f) (hfn:Tryz.pinned.checked.prog.funcs[f]? = some fn) :
    false=Tryz.pinned.checked.prog.looks []/\∀ (j:Nat) t,fn.params[j]? = some t->Tryz.pinned.checked.prog.wantsStandIn t=false:=by
  obtain rfl:f=7:=Option.some.inj ((show Tryz.prog.funcNamed "tactus/tactuslaw10.NotateLoose" = some 7 by kernel_rfl).symm.trans hf) |>.symm
  obtain rfl:fn=Tryz.f7:=(Option.some.inj (Tryz.func7.symm.trans hfn)).symm
  refine ⟨by kernel_rfl,fun j t ht=>?_⟩
  rw [Tryz.params7] at ht
  have q47:Tryz.pinned.checked.prog.wantsStandIn 47=false:=by kernel_rfl
  rcases j with _ | _ | j
  . obtain rfl:47=t:=by simpa using ht
    exact q47
  . obtain rfl:47=t:=by simpa using ht
    exact q47
  . simp at ht

/-- THE CARD. -/
theorem card:Rows.NotateLooseCardSaid:=
  Claim7.holds_tied_plain_at .later [] _ _ _ _ said (fun _ h=>by cases h) (by kernel_rfl) (fun _ h=>by cases h) notateLoose_row_tie rfl ⟨rfl,rfl⟩ (by kernel_rfl) rfl plain (by kernel_rfl)
#print axioms card
end Go.Proofs.YtbopmiclcimjgaaGreatDoor.notateLoose
