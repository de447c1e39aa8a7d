/- THE LAW NotateLetters of the chapter 10: the call returns true and nothing that was there before it is turned, whatever the arguments. No condition beyond its row's own: the listed variables read as the program's text lays them. -/
import Derived.Test.YtbopmiclcimjgaaGreatDoorCards
import Derived.Test.YtbopmiclcimjgaaGreatDoorTie
import Derived.Test.YtbopmiclcimjgaaGreatDoorFns
import Derived.Test.YtbopmiclcimjgaaGreatDoorM6
import Derived.Shelf.Vars
import Derived.Test.YtbopmiclcimjgaaGreatDoorNotateAwakeF
import Derived.Test.YtbopmiclcimjgaaGreatDoorNlIndex
import Derived.WalkKit
import Derived.ProofKit
import Derived.OpenShut
import Derived.ChangeMaps5
import Derived.Deep.DeepHandedRow
namespace Go.Proofs.YtbopmiclcimjgaaGreatDoor.notateLetters
open Go.ChangeShapes Go.WideShapes Go.ChangeAt Go.RowKit Go.ChangeMaps
set_option maxRecDepth 100000

theorem own:ownKnob Tryz.prog.godebug=none:=by kernel_rfl
theorem qr5:notateAwake.qkj.qnh=true:=by kernel_rfl
theorem qws:E2.kb Tryz.prog notateAwake.qkj.f notateAwake.qkj.qt0:=E2.qup Tryz.checked.mixed notateAwake.tables notateAwake.q21 (by kernel_rfl) notateAwake.qx9

/-- The calls that are answered by facts: 'awake', the library's search for a text. -/
def sp (f:Nat):Option (List E2.V->E2.Heap->Option (E2.CR×E2.Heap)):=if f=9 then some notateAwake.qkj.qt0 else if f=110 then some (E2.qp2 1) else none
variable {mx:Int}
theorem q2c:E3.qx2 (cfg mx sp):=fun f hf=>by
  show sp f=none
  unfold sp
  rw [zF,zF]
  . rintro rfl
    cases hf
  . rintro rfl
    cases hf
theorem quiet:E3.qb4 (cfg mx sp):=⟨q2c,fun f h=>by cases h⟩
theorem q32:∀ f s,sp f=some s->E2.kb Tryz.prog f s:=by
  intro f s h
  unfold sp at h
  split at h
  . rename_i hf
    cases h
    subst hf
    exact qws
  . split at h
    . rename_i hf
      cases h
      subst hf
      exact q0l
    . cases h
theorem qwr (H:E2.Heap) (hg:H.qk=(cfg mx sp).ng) (ho:∀ gn o,(cfg mx sp).gobj gn=some o->H.get gn=some o/\gn<H.next):E2.j7 (cfg mx sp).E (.func 9) [] H fun v H'=>v=.bool true/\H'=H:=
  E2.qm8 (s:=notateAwake.qkj.qt0) rfl (E2.q06 qr5 hg fun x hx=>ho x.1 x.2 (E3.qh0 (by kernel_rfl) (List.mem_append_left _ hx))) ⟨rfl,rfl⟩
theorem qz5:E3.qgf XK szK (cfg mx sp) 9 [] qw9:=E3.qyi qic (v:=.bool true) .sb rfl qwr fun H M=>.sb .rfl .rfl fun h0=>absurd rfl h0
theorem qz6:E3.qmr XK szK (cfg mx sp) 9 ct9:=by
  intro ns pre r h hp
  unfold ct9 at h
  dsimp only at h
  split at h
  . cases h
    exact ⟨_,rfl,qz5,E3.qff rfl⟩
  . cases h
theorem qw3 (H:E2.Heap) (hg:H.qk=(cfg mx sp).ng) (ho:∀ gn o,(cfg mx sp).gobj gn=some o->H.get gn=some o/\gn<H.next) {a b:ZB} (h0:E3.ln a<=1000):E2.j7 (cfg mx sp).E (.func 110) [.str a,.str b] H fun v H'=>v=.int .i64 (qo6 a b)/\H'=H:=by
  have h1:=ho 1 (.row [.int .i64 mx] 3 0 0 0 false) rfl
  have hg':H.qk=7:=hg
  refine E2.qm8 (s:=E2.qp2 1) rfl ?_ ⟨rfl,rfl⟩
  unfold E2.qp2
  simp only [h1.1]
  rw [zT ⟨by omega,h1.2,by simp only [E3.ln] at h0;omega⟩]
  rfl
theorem q0k {a b:ZB} (h0:E3.ln a<=1000):E3.qgf XK szK (cfg mx sp) 110 [.str a,.str b] (qpm a b):=by
  intro H M vs S ra
  obtain ⟨v,vs',rfl,r1,r2⟩:=ra.qp
  obtain ⟨u,vs'',rfl,r3,r4⟩:=r2.qp
  have:=r4.qx;subst this
  cases r1;cases r3
  refine (qw3 H S.ro.2.1 S.ro.2.2 h0).mono fun u H' hA=>?_
  obtain ⟨rfl,rfl⟩:=hA
  let w':E3.Wd:={E3.wd0 H' M (cfg mx sp).codec with owns:=fun _=>some 0}
  have rv':E3.Rep XK szK w' (qpm a b) (.int .i64 (qo6 a b)):=E3.Rep.plain (w:=E3.wd0 H' M (cfg mx sp).codec) (w':=w') (qic (mx:=mx) (sp:=sp)).plain rfl (fun _ _ _ h=>h) (.int fun m hm=>by cases hm) .int
  exact ⟨w',.refl H',S.wf,rfl,fun n _=>.rfl,S.Mlt,rfl,rfl,fun _=>rfl,fun i nm he=>(by cases he),fun i j nm he=>(by cases he),rv'⟩
theorem qw4:E3.qmr XK szK (cfg mx sp) 110 qpr:=by
  intro ns pre r h hp
  unfold qpr at h
  dsimp only at h
  split at h
  . cases h
    exact ⟨_,rfl,q0k hp,E3.qff rfl⟩
  . cases h

/-! ### The listed variables -/
theorem qne {a b:Array Value} {t t':TypeId} {f f':Nat×Nat} (h:some (Obj.cells a t f)=some (Obj.cells b t' f')):t=t':=by
  cases h
  rfl
theorem globals:Tryz.prog.globals.size=7:=by kernel_rfl
theorem qxo:(Rows.notateLettersRow.laid.filter fun x=>x.2.handleName?.isSome)=[]:=by kernel_rfl
noncomputable def qm9:List Value:=(E2.qe0 Tryz.prog 10 115 Rows.laid_tactus_sign_uses).getD []
theorem q2p:E2.qe0 Tryz.prog 10 115 Rows.laid_tactus_sign_uses=some qm9:=by kernel_rfl
theorem q3c:qm9≠[]:=by
  intro h
  have:qm9.isEmpty=false:=by kernel_rfl
  rw [h] at this
  cases this
theorem q16:Tryz.prog.globalNamed "tactus/sign.uses" = some 0:=by kernel_rfl
theorem q2h:(Tryz.prog.globals[0]?).map (·.type)=some 115:=by kernel_rfl
theorem q3o:((((begin Tryz.prog (fun _ _=>0) default).world).heap[0]?).bind Obj.row?).map (·.2)=some 115:=by kernel_rfl
theorem q0o:("tactus/sign.uses",Rows.laid_tactus_sign_uses) ∈ Rows.notateLettersRow.laid:=by
  exact List.mem_of_getElem? (i:=4) rfl
theorem q23 {W:World} (hL:laidMet Tryz.prog Rows.notateLettersRow.laid W) (hsh:W.ShapedOpen Tryz.prog):W.heap[0]? = some (.cells qm9.toArray 115 (0,0)):=by
  obtain ⟨ps,h1,_,h2⟩:=hL
  obtain ⟨t',h3⟩:=E2.qis h1 (fun b off hb=>(h2 b off hb).1) (name:= "tactus/sign.uses") (d:=Rows.laid_tactus_sign_uses) q0o q16 q2h q2p q3c
  have h4:=q3o
  obtain ⟨⟨zero,t⟩,h5,h6⟩:=zM.1 h4
  simp only at h6
  subst h6
  obtain ⟨cs,h7,_⟩:=hsh.1 0 zero 115 (by rw [globals];decide) h5
  have h9:=qne (h3.symm.trans h7)
  rw [h9] at h3
  exact h3
noncomputable def qna:List Value:=(E2.qe0 Tryz.prog 10 183 Rows.laid_internal_strconv_uint64pow10).getD []
theorem q2q:E2.qe0 Tryz.prog 10 183 Rows.laid_internal_strconv_uint64pow10=some qna:=by kernel_rfl
theorem q3d:qna≠[]:=by
  intro h
  have:qna.isEmpty=false:=by kernel_rfl
  rw [h] at this
  cases this
theorem q17:Tryz.prog.globalNamed "internal/strconv.uint64pow10" = some 4:=by kernel_rfl
theorem q2i:(Tryz.prog.globals[4]?).map (·.type)=some 183:=by kernel_rfl
theorem q3p:((((begin Tryz.prog (fun _ _=>0) default).world).heap[4]?).bind Obj.row?).map (·.2)=some 183:=by kernel_rfl
theorem q0p:("internal/strconv.uint64pow10",Rows.laid_internal_strconv_uint64pow10) ∈ Rows.notateLettersRow.laid:=by
  exact List.mem_of_getElem? (i:=2) rfl
theorem q24 {W:World} (hL:laidMet Tryz.prog Rows.notateLettersRow.laid W) (hsh:W.ShapedOpen Tryz.prog):W.heap[4]? = some (.cells qna.toArray 183 (0,0)):=by
  obtain ⟨ps,h1,_,h2⟩:=hL
  obtain ⟨t',h3⟩:=E2.qis h1 (fun b off hb=>(h2 b off hb).1) (name:= "internal/strconv.uint64pow10") (d:=Rows.laid_internal_strconv_uint64pow10) q0p q17 q2i q2q q3d
  have h4:=q3p
  obtain ⟨⟨zero,t⟩,h5,h6⟩:=zM.1 h4
  simp only at h6
  subst h6
  obtain ⟨cs,h7,_⟩:=hsh.1 4 zero 183 (by rw [globals];decide) h5
  have h9:=qne (h3.symm.trans h7)
  rw [h9] at h3
  exact h3
theorem q3q:((((begin Tryz.prog (fun _ _=>0) default).world).heap[6]?).bind Obj.row?).map (·.2)=some 189:=by kernel_rfl
theorem q1r {W:World} (hsh:W.ShapedOpen Tryz.prog):7<=W.heap.size:=by
  obtain ⟨⟨zero,t⟩,h5,h6⟩:=zM.1 q3q
  obtain ⟨cs,h7,_⟩:=hsh.1 6 zero t (by rw [globals];decide) h5
  exact (Array.getElem?_eq_some_iff.1 h7).1
theorem kz:notateAwake.qk=[(0,.row (qm9.map E3.qb2) 115 0 0 0 false),(4,.row (qna.map E3.qb2) 183 0 0 0 false)]:=by kernel_rfl
theorem toText {W:World} (hL:laidMetH Tryz.prog Rows.notateLettersRow.laid W):laidMet Tryz.prog Rows.notateLettersRow.laid W:=by
  unfold laidMetH at hL
  rw [qxo] at hL
  exact hL
/-- internal/bytealg.MaxLen holds some number. -/
theorem qp6:((((begin Tryz.prog (fun _ _=>0) default).world).heap[1]?).bind Obj.row?)=some (#[.int .i64 0],3):=by kernel_rfl
theorem qxf {W:World} (hsh:W.ShapedOpen Tryz.prog):∃ m:Int,W.heap[1]? = some (.cells #[.int .i64 m] 3 (0,0)):=by
  obtain ⟨m,hm⟩:=cell_of_shapedOpen_int (g:=1) (t:=3) (k:=.i64) (zero:=#[.int .i64 0]) hsh (by rw [globals];decide) qp6 rfl (by kernel_rfl) (by kernel_rfl) Tryz.underlying3
  obtain ⟨cs,h7,hs,_⟩:=hsh.1 1 #[.int .i64 0] 3 (by rw [globals];decide) qp6
  refine ⟨m,?_⟩
  have h1:cs.size=1:=hs
  rw [h7]
  simp only [World.cell?,h7] at hm
  have h2:cs[0]? = some (.int .i64 m):=by simpa using hm
  have:cs = #[.int .i64 m]:=by
    apply Array.ext'
    cases hl:cs.toList with
    | nil=>rw [<-Array.length_toList,hl] at h1;cases h1
    | cons x xs=>
      have hx:xs=[]:=by
        rw [<-Array.length_toList,hl] at h1
        exact List.eq_nil_of_length_eq_zero (by simpa using h1)
      rw [<-Array.getElem?_toList,hl] at h2
      simp at h2
      rw [hx,h2]
  rw [this]
/-- The variables lie there. -/
theorem laid {W:World} (hL:laidMetH Tryz.prog Rows.notateLettersRow.laid W) (hsh:W.ShapedOpen Tryz.prog) (hmx:W.heap[1]? = some (.cells #[.int .i64 mx] 3 (0,0))) (gn:Nat) (o:E2.O) (h:(cfg mx sp).gobj gn=some o):(E3.qeh W 7).get gn=some o/\gn<(E3.qeh W 7).next:=by
  have hm:=E3.qdd (show E3.look (notateAwake.qk++[(1,.row [.int .i64 mx] 3 0 0 0 false)]) gn=some o from h)
  have hsz:=q1r hsh
  rw [kz] at hm
  simp only [List.cons_append,List.nil_append,zD,zP,List.not_mem_nil,or_false] at hm
  rcases hm with ⟨rfl,rfl⟩ | ⟨rfl,rfl⟩ | ⟨rfl,rfl⟩
  . exact ⟨E3.qhi (q23 (toText hL) hsh),show 0<W.heap.size by omega⟩
  . exact ⟨E3.qhi (q24 (toText hL) hsh),show 4<W.heap.size by omega⟩
  . exact ⟨E3.qhi hmx,show 1<W.heap.size by omega⟩

/-! ### The argument: a text -/
def good:∀ c,KT c->Prop:=fun _ _=>True
def cdA:Nat->Option Nat:=fun _=>none
theorem q1k:E3.ArgOk good XK szK Tryz.prog cdA 8:=⟨fun e c h=>by cases h⟩

theorem body:∃ c,Tryz.f8.body=some c:=⟨_,rfl⟩

theorem contract (H:Type) (enc:TypeId×Value->H) (W:World) (base:Nat) (args:Array Value) (ds gs:List (DataW H)) (before:List MemPlace)
    (hval:∀ (j:Nat) t v,Tryz.f8.params[j]? = some t->args[j]? = some v->Value.okWide Tryz.prog W .any base t v)
    (hW:DataW.Whole enc Tryz.prog Tryz.f8.params.toList Rows.notateLettersSpec.vars false W args.toList ds gs before) (hL:laidMetH Tryz.prog Rows.notateLettersRow.laid W) (hsh:W.ShapedOpen Tryz.prog) :
    Calls Tryz.prog 8 args W fun e W'=>∃ v,e=.returned v/\Rows.notateLettersSpec.post enc Tryz.prog Tryz.f8 false true false false W args v W':=by
  have hW':=hW
  obtain ⟨p,q,hA0,_⟩:=hW
  have hA:DataW.TrodAll enc Tryz.prog W 0 (fun _=>true) true Tryz.f8.params.toList args.toList ds p:=hA0
  rw [Tryz.params8] at hA hval
  obtain ⟨v1,v2,d1,d2,p1,p2,ha,rfl,rfl,h1,h2⟩:=trodAll_two hA
  obtain ⟨mx,hmx⟩:=qxf hsh
  subst ha
  obtain ⟨cd,hcd⟩:=body
  have hM:∀ n:Nat,¬ (fun _:Nat=>False) n:=fun n h=>h
  have hsim:=E3.q31 (W:=W) (ng:=7) (q1r hsh)
  have hlt:∀ nm g x,E3.j5 W nm g=some x->nm<(E3.qeh W 7).ro:=by
    intro nm g x h
    obtain ⟨_,arr,e,fz,hb,_⟩:=E3.km h
    exact (Array.getElem?_eq_some_iff.1 hb).1
  obtain ⟨q1,u1,hl1,hrep1,hrelu1⟩:=E3.qvh (C:=cfg mx sp) (ng:=7) (M:=fun _=>False) qnf q1k hM (t:=3) (leaf:=.int .i64) (by kernel_rfl) (by kernel_rfl) (hval 0 3 v1 rfl rfl) h1
  obtain ⟨x,rfl,hx1,hx2⟩:=hl1
  obtain ⟨q2,u2,hl2,hrep2,hrelu2⟩:=E3.qvh (C:=cfg mx sp) (ng:=7) (M:=fun _=>False) qnf q1k hM (t:=9) (leaf:=.str) (by kernel_rfl) (by kernel_rfl) (hval 1 9 v2 rfl rfl) h2
  obtain ⟨s2,rfl,hln2⟩:=hl2
  have hrel:E2.qd (E3.j5 W) W [u1,u2] (#[v1,v2]:Array Value).toList:=E2.qd.cons hrelu1 (E2.qd.cons hrelu2 E2.qd.nil)
  have hstart:E3.Start XK szK (cfg mx sp) (E3.qeh W 7) (fun _=>False):=by
    refine ⟨fun n hn=>?_,⟨zN _,rfl,laid hL hsh hmx⟩,fun n h=>h.elim,fun gn ps h=>by cases h⟩
    cases hg:(E3.qeh W 7).get n with
    | none=>rfl
    | some o=>
      obtain ⟨arr,e,fz,hb,_⟩:=E3.qim hg
      exact absurd (Array.getElem?_eq_some_iff.1 hb).1 (Nat.not_lt.2 hn)
  have hrun:=qo7 quiet qz6 qw4 x s2 ⟨⟨hx1,hx2⟩,Int.le_trans (Int.ofNat_le.2 hln2) (by decide)⟩ _ _ [u1,u2] hstart (.cons hrep1 (.cons hrep2 .nil))
  refine (E2.qsc Tryz.checked.mixed notateAwake.tables q32 Tryz.func8 (by kernel_rfl) hcd hsim hrel hrun).mono fun e W' ⟨v,H',x,G',hR,he,hx,st⟩=>?_
  obtain ⟨w',hR⟩:=hR
  have hr:=hR.rep
  obtain rfl:v=.bool true:=by cases hr;rfl
  simp only [E2.Rel] at hx
  subst hx
  subst he
  have hsame:∀ b,b<W.heap.size->W'.heap[b]? = W.heap[b]?:=E3.qwy st.ext
  refine ⟨_,rfl,E3.qpg (t:=4) hW' rfl rfl Tryz.underlying4 rfl ⟨p1++p2,?_⟩ (fun may=>st.ext.keptBut hlt may)⟩
  rw [Tryz.params8]
  exact trodAll_mk2 (E3.qos (by kernel_rfl) (by kernel_rfl) (Nat.le_of_ble_eq_true (by kernel_rfl)) h1 hsame _ fun b hb=>decide_eq_true hb) (E3.qos (by kernel_rfl) (by kernel_rfl) (Nat.le_of_ble_eq_true (by kernel_rfl)) h2 hsame _ fun b hb=>decide_eq_true hb)

/-- A WORLD FOR THE WITNESS: the settled one, the tables as their initialisers lay them. -/
def qnt:Nat->DataW Unit->List Value
  | n+1,.agg l=>l.flatMap (qnt n)
  | _+1,.lit (.int k i)=>[.int k i]
  | _+1,.lit (.bool b)=>[.bool b]
  | _+1,.lit (.string s)=>[.string ⟨s.toArray⟩]
  | _,_=>[]
def lay (g:Nat) (cs:List Value) (heap:Array Obj):Array Obj:=
  heap.modify g fun
    | .cells _ t frozen=>.cells cs.toArray t frozen
    | o=>o
def wit:Array Value:=#[.int .i64 0,.string ⟨#[]⟩]
noncomputable def qku (os:Os):World:=
  {World.holding Tryz.prog os ⟨#[],wit,[]⟩ with heap:=(lay 6 (qnt 8 Rows.laid_math_bits_deBruijn64tab) (lay 5 (qnt 8 Rows.laid_math_bits_deBruijn32tab) (lay 4 (qnt 8 Rows.laid_internal_strconv_uint64pow10) (lay 3 (qnt 8 Rows.laid_unicode_utf8_acceptRanges) (lay 2 (qnt 8 Rows.laid_unicode_utf8_first) (lay 0 (qnt 8 Rows.laid_tactus_sign_uses) ((World.holding Tryz.prog os ⟨#[],wit,[]⟩).heap)))))))}
theorem qyu (os:Os):laidMet Tryz.prog Rows.notateLettersRow.laid ((qku os).forCall (fun _ _=>0) ⟨#[],wit,[]⟩).memory:=
  laidMet_of_run' 8 (by kernel_rfl) (by kernel_rfl)
theorem reads (os:Os) {H:Type} (enc:TypeId×Value->H):∃ places,DataW.whole enc Tryz.prog ((qku os).forCall (fun _ _=>0) ⟨#[],wit,[]⟩).memory Tryz.f8.params.toList Rows.notateLettersSpec.vars false wit.toList 8=some ([.lit (.int .i64 0),.lit (.string [])],[],places):=
  ⟨[],by kernel_rfl⟩

theorem lifted (os:Os) (started:os.Started) (H:Type) (enc:TypeId×Value->H) (F:Stop.Interp) :
    ReturnsInHanded {} Tryz.checked os 8 .any ((OpenSpec.ofChange Rows.notateLettersSpec).preRow enc Tryz.prog Tryz.f8 Rows.notateLettersRow.domain false Rows.notateLettersRow.laid) (((OpenSpec.ofChange Rows.notateLettersSpec).at F).post enc Tryz.prog Tryz.f8 false true false false):=by
  obtain ⟨places,hx⟩:=reads os enc
  refine returnsInHanded_of_row (C:=Tryz.checked) (s:=OpenSpec.ofChange Rows.notateLettersSpec) own started (by kernel_rfl) Tryz.func8
    (witness_row_at (enc:=enc) (C:=Tryz.checked) false (qku os) wit rfl (by kernel_rfl) (by kernel_rfl) (by kernel_rfl)
      (OpenSpec.preRow_of_cond 8 hx (by kernel_rfl) (fun k hk=>by cases hk) (by kernel_rfl) (qyu os))) ?_
  intro W base args ds gs before hval hW _ _ _ hL hsh _
  exact contract H enc W base args ds gs before hval hW hL hsh

theorem said:Rows.NotateLettersSaid:=
  OpenClaim.holds_of_cond 8 Tryz.f8 rfl rfl rfl rfl rfl rfl rfl ⟨rfl,rfl,rfl,rfl,rfl⟩ rfl rfl rfl rfl rfl (by kernel_rfl) Tryz.func8 (by kernel_rfl)
    (of_decide_eq_true (by kernel_rfl)) (by unfold Func.isWrapper;first | (rw [zT (by decide +kernel)];kernel_rfl) | (rw [zF (by decide +kernel)];exact ⟨rfl,rfl⟩))
    (fun os started H enc _ F=>by rw [OpenClaim.pre_eq_preRow];exact lifted os started H enc F)

/-- No parameter wants a stand-in; the program's own looks. -/
theorem plain (f:FuncId) (fn:Func) (hf:Tryz.pinned.checked.prog.funcNamed "tactus/tactuslaw10.NotateLetters" = some f) (hfn:Tryz.pinned.checked.prog.funcs[f]? = some fn) :
    false=Tryz.pinned.checked.prog.looks []/\∀ (j:Nat) t,fn.params[j]? = some t->Tryz.pinned.checked.prog.wantsStandIn t=false:=by
  obtain rfl:f=8:=Option.some.inj ((show Tryz.prog.funcNamed "tactus/tactuslaw10.NotateLetters" = some 8 by kernel_rfl).symm.trans hf) |>.symm
  obtain rfl:fn=Tryz.f8:=(Option.some.inj (Tryz.func8.symm.trans hfn)).symm
  refine ⟨by kernel_rfl,fun j t ht=>?_⟩
  rw [Tryz.params8] at ht
  have q0:Tryz.pinned.checked.prog.wantsStandIn 3=false:=by kernel_rfl
  have q1:Tryz.pinned.checked.prog.wantsStandIn 9=false:=by kernel_rfl
  rcases j with _ | _ | j
  . obtain rfl:3=t:=by simpa using ht
    exact q0
  . obtain rfl:9=t:=by simpa using ht
    exact q1
  . simp at ht

/-- THE CARD. -/
theorem card:Rows.NotateLettersCardSaid:=
  Claim7.holds_tied_plain_at .later [] _ _ _ _ said (fun _ h=>by cases h) (by kernel_rfl) (fun _ h=>by cases h) notateLetters_row_tie rfl ⟨rfl,rfl⟩ (by kernel_rfl) rfl plain (by kernel_rfl)
#print axioms card
end Go.Proofs.YtbopmiclcimjgaaGreatDoor.notateLetters
