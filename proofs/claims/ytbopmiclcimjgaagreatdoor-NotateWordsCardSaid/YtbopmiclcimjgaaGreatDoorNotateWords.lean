/- THE LAW NotateWords of the chapter 10: the call returns true and nothing that was there before it is turned, whatever the arguments. No condition beyond its row's own: the listed variables read as the program's text lays them. -/
import Derived.Test.YtbopmiclcimjgaaGreatDoorCards
import Derived.Test.YtbopmiclcimjgaaGreatDoorTie
import Derived.Test.YtbopmiclcimjgaaGreatDoorFns
import Derived.Test.YtbopmiclcimjgaaGreatDoorM6
import Derived.Test.YtbopmiclcimjgaaGreatDoorNotateAwakeRun
import Derived.Test.YtbopmiclcimjgaaGreatDoorNotateItoa
import Derived.WalkKit
import Derived.ProofKit
import Derived.OpenShut
import Derived.ChangeMaps5
import Derived.Deep.DeepHandedRow
namespace Go.Proofs.YtbopmiclcimjgaaGreatDoor.notateWords
open Go.ChangeShapes Go.WideShapes Go.ChangeAt Go.RowKit Go.ChangeMaps
set_option maxRecDepth 100000

theorem own:ownKnob Tryz.prog.godebug=none:=by kernel_rfl
theorem qzv:notateAwake.qpe.qs9=true:=by kernel_rfl
theorem q8b:E2.qac Tryz.prog notateAwake.qpe.f notateAwake.qpe.qvz:=E2.qts Tryz.checked.mixed notateAwake.tables notateAwake.zkh (by kernel_rfl) notateAwake.zav

/-- The calls that are answered by facts: 'awake', 'strconv.Itoa' at the numbers of signs. -/
def sp (f:Nat):Option (List E2.V->E2.Heap->Option (E2.CR×E2.Heap)):=if f=9 then some notateAwake.qpe.qvz else if f=117 then some notateAwake.spI else none
theorem zjc:E3.zab (cfg sp):=fun f hf=>by
  show sp f=none
  unfold sp
  rw [if_neg,if_neg]
  . rintro rfl
    cases hf
  . rintro rfl
    cases hf
theorem quiet:E3.ze (cfg sp):=⟨zjc,E3.zg0 (C:=cfg sp) (F:=35) (tB:=70) (tS:=68) (tQ:=128) (tI:=3) (tU:=5) rfl rfl (by kernel_rfl) fun el h=>by
  have:=E3.qfc h
  simp only [qks,List.mem_cons,Prod.mk.injEq,List.not_mem_nil,or_false] at this
  rcases this with ⟨h1,h2⟩ | ⟨h1,h2⟩ | ⟨h1,h2⟩ | ⟨h1,h2⟩ | ⟨h1,h2⟩<;>first | exact h1 | cases h2⟩
theorem zmw:∀ f s,sp f=some s->E2.qac Tryz.prog f s:=by
  intro f s h
  unfold sp at h
  split at h
  . rename_i hf
    cases h
    subst hf
    exact q8b
  . split at h
    . rename_i hf
      cases h
      subst hf
      exact notateAwake.zkg
    . cases h
theorem q8a (H:E2.Heap) (hg:H.zd=(cfg sp).ng) (ho:∀ gn o,(cfg sp).gobj gn=some o->H.get gn=some o/\gn<H.next):E2.qb5 (cfg sp).E (.func 9) [] H fun v H'=>v=.bool true/\H'=H:=
  E2.qs1 (s:=notateAwake.qpe.qvz) rfl (E2.zg9 qzv hg fun x hx=>ho x.1 x.2 (E3.ql9 (by kernel_rfl) hx)) ⟨rfl,rfl⟩
theorem ze0:E3.qa4 XK szK (cfg sp) 9 [] q8w:=E3.zbh jd (v:=.bool true) .sb rfl q8a fun H M=>.sb .rfl .rfl fun h0=>absurd rfl h0
theorem ze1:E3.qb4 XK szK (cfg sp) 9 ct9:=by
  intro ns pre r h hp
  unfold ct9 at h
  dsimp only at h
  split at h
  . cases h
    exact ⟨_,rfl,ze0,E3.zp rfl⟩
  . cases h
theorem zb2 (H:E2.Heap) (hg:H.zd=(cfg sp).ng) (ho:∀ gn o,(cfg sp).gobj gn=some o->H.get gn=some o/\gn<H.next) {n:Int} (h0:-4<=n) (h1:n<=100):E2.qb5 (cfg sp).E (.func 117) [.int .i64 n] H fun v H'=>v=.str (zb n)/\H'=H:=by
  have h4:=ho 4 notateAwake.qrf rfl
  exact E2.qs1 (s:=notateAwake.spI) rfl (notateAwake.zjp h0 h1 hg h4.1 h4.2) ⟨rfl,rfl⟩
theorem zit {n:Int} (h0:-4<=n) (h1:n<=100):E3.qa4 XK szK (cfg sp) 117 [.int .i64 none n] (qzh n):=by
  intro H M vs S ra
  obtain ⟨v,vs',rfl,r1,r2⟩:=ra.zu
  have:=r2.kc;subst this
  cases r1
  refine (zb2 H S.ro.2.1 S.ro.2.2 h0 h1).mono fun u H' hA=>?_
  obtain ⟨rfl,rfl⟩:=hA
  let w':E3.Wd:={E3.wd0 H' M (cfg sp).codec with owns:=fun _=>some 0}
  have rv':E3.Rep XK szK w' (qzh n) (.str (zb n)):=E3.Rep.plain (w:=E3.wd0 H' M (cfg sp).codec) (w':=w') (jd (sp:=sp)).plain rfl (fun _ _ _ h=>h) .str .str
  exact ⟨w',.refl H',S.wf,rfl,fun n _=>.rfl,S.Mlt,rfl,rfl,fun _=>rfl,fun i nm he=>(by cases he),fun i j nm he=>(by cases he),rv'⟩
theorem ziu:E3.qb4 XK szK (cfg sp) 117 qn0:=by
  intro ns pre r h hp
  unfold qn0 at h
  dsimp only at h
  split at h
  . cases h
    exact ⟨_,rfl,zit hp.1 hp.2,E3.zp rfl⟩
  . cases h

/-! ### The listed variables -/
theorem qs7 {a b:Array Value} {t t':TypeId} {f f':Nat×Nat} (h:some (Obj.cells a t f)=some (Obj.cells b t' f')):t=t':=by
  cases h
  rfl
theorem globals:Tryz.prog.globals.size=7:=by kernel_rfl
theorem q9i:(Rows.notateWordsRow.laid.filter fun x=>x.2.handleName?.isSome)=[]:=by kernel_rfl
noncomputable def qkr:List Value:=(E2.qii Tryz.prog 10 115 Rows.laid_tactus_sign_uses).getD []
theorem zj4:E2.qii Tryz.prog 10 115 Rows.laid_tactus_sign_uses=some qkr:=by kernel_rfl
theorem zlf:qkr≠[]:=by
  intro h
  have:qkr.isEmpty=false:=by kernel_rfl
  rw [h] at this
  cases this
theorem zi4:Tryz.prog.globalNamed "tactus/sign.uses" = some 0:=by kernel_rfl
theorem zjs:(Tryz.prog.globals[0]?).map (·.type)=some 115:=by kernel_rfl
theorem zmh:((((begin Tryz.prog (fun _ _=>0) default).world).heap[0]?).bind Obj.row?).map (·.2)=some 115:=by kernel_rfl
theorem zf8:("tactus/sign.uses",Rows.laid_tactus_sign_uses) ∈ Rows.notateWordsRow.laid:=by
  exact List.mem_of_getElem? (i:=4) rfl
theorem zhr {W:World} (hL:laidMet Tryz.prog Rows.notateWordsRow.laid W) (hsh:W.ShapedOpen Tryz.prog):W.heap[0]? = some (.cells qkr.toArray 115 (0,0)):=by
  obtain ⟨ps,h1,_,h2⟩:=hL
  obtain ⟨t',h3⟩:=E2.qm8 h1 (fun b off hb=>(h2 b off hb).1) (name:= "tactus/sign.uses") (d:=Rows.laid_tactus_sign_uses) zf8 zi4 zjs zj4 zlf
  have h4:=zmh
  obtain ⟨⟨zero,t⟩,h5,h6⟩:=Option.map_eq_some_iff.1 h4
  simp only at h6
  subst h6
  obtain ⟨cs,h7,_⟩:=hsh.1 0 zero 115 (by rw [globals];decide) h5
  have h9:=qs7 (h3.symm.trans h7)
  rw [h9] at h3
  exact h3
noncomputable def qs4:List Value:=(E2.qii Tryz.prog 10 183 Rows.laid_internal_strconv_uint64pow10).getD []
theorem zj5:E2.qii Tryz.prog 10 183 Rows.laid_internal_strconv_uint64pow10=some qs4:=by kernel_rfl
theorem zlg:qs4≠[]:=by
  intro h
  have:qs4.isEmpty=false:=by kernel_rfl
  rw [h] at this
  cases this
theorem zi5:Tryz.prog.globalNamed "internal/strconv.uint64pow10" = some 4:=by kernel_rfl
theorem zjt:(Tryz.prog.globals[4]?).map (·.type)=some 183:=by kernel_rfl
theorem zmi:((((begin Tryz.prog (fun _ _=>0) default).world).heap[4]?).bind Obj.row?).map (·.2)=some 183:=by kernel_rfl
theorem zf9:("internal/strconv.uint64pow10",Rows.laid_internal_strconv_uint64pow10) ∈ Rows.notateWordsRow.laid:=by
  exact List.mem_of_getElem? (i:=2) rfl
theorem zkj {W:World} (hL:laidMet Tryz.prog Rows.notateWordsRow.laid W) (hsh:W.ShapedOpen Tryz.prog):W.heap[4]? = some (.cells qs4.toArray 183 (0,0)):=by
  obtain ⟨ps,h1,_,h2⟩:=hL
  obtain ⟨t',h3⟩:=E2.qm8 h1 (fun b off hb=>(h2 b off hb).1) (name:= "internal/strconv.uint64pow10") (d:=Rows.laid_internal_strconv_uint64pow10) zf9 zi5 zjt zj5 zlg
  have h4:=zmi
  obtain ⟨⟨zero,t⟩,h5,h6⟩:=Option.map_eq_some_iff.1 h4
  simp only at h6
  subst h6
  obtain ⟨cs,h7,_⟩:=hsh.1 4 zero 183 (by rw [globals];decide) h5
  have h9:=qs7 (h3.symm.trans h7)
  rw [h9] at h3
  exact h3
theorem zmj:((((begin Tryz.prog (fun _ _=>0) default).world).heap[6]?).bind Obj.row?).map (·.2)=some 189:=by kernel_rfl
theorem zd0 {W:World} (hsh:W.ShapedOpen Tryz.prog):7<=W.heap.size:=by
  obtain ⟨⟨zero,t⟩,h5,h6⟩:=Option.map_eq_some_iff.1 zmj
  obtain ⟨cs,h7,_⟩:=hsh.1 6 zero t (by rw [globals];decide) h5
  exact (Array.getElem?_eq_some_iff.1 h7).1
theorem qam:notateAwake.zd=[(0,.row (qkr.map E3.qec) 115 0 0 0 false),(4,.row (qs4.map E3.qec) 183 0 0 0 false)]:=by kernel_rfl
theorem toText {W:World} (hL:laidMetH Tryz.prog Rows.notateWordsRow.laid W):laidMet Tryz.prog Rows.notateWordsRow.laid W:=by
  unfold laidMetH at hL
  rw [q9i] at hL
  exact hL
/-- The variables lie there. -/
theorem laid {W:World} (hL:laidMetH Tryz.prog Rows.notateWordsRow.laid W) (hsh:W.ShapedOpen Tryz.prog) (gn:Nat) (o:E2.O) (h:(cfg sp).gobj gn=some o):(E3.qdq W 7).get gn=some o/\gn<(E3.qdq W 7).next:=by
  have hm:=E3.qfc (show E3.look notateAwake.zd gn=some o from h)
  have hsz:=zd0 hsh
  rw [qam] at hm
  simp only [List.mem_cons,Prod.mk.injEq,List.not_mem_nil,or_false] at hm
  rcases hm with ⟨rfl,rfl⟩ | ⟨rfl,rfl⟩
  . exact ⟨E3.qll (zhr (toText hL) hsh),show 0<W.heap.size by omega⟩
  . exact ⟨E3.qll (zkj (toText hL) hsh),show 4<W.heap.size by omega⟩
/-- The fields that are used, as truth values. -/
noncomputable def zh3:List Bool:=qkr.map fun
  | .bool b=>b
  | _=>false
theorem zln:q0v 0=some (zh3.map E3.P.lit):=by kernel_rfl
theorem zlo:qkr.map E3.qec=zh3.map E2.V.bool:=by kernel_rfl
theorem constants {W:World} (hL:laidMetH Tryz.prog Rows.notateWordsRow.laid W) (hsh:W.ShapedOpen Tryz.prog) (gn:Nat) (ps:List (E3.PV KT)) (h:(cfg sp).zd gn=some ps) :
    gn<(E3.qdq W 7).zd/\∃ vs e fl fz ex,(E3.qdq W 7).get gn=some (.row vs e 0 fl fz ex)/\gn<(E3.qdq W 7).next/\E3.Rep XK szK (E3.wd0 (E3.qdq W 7) (fun _=>False) (cfg sp).codec) (.eptr ps 0) (.ptr gn 0 0 vs.length):=by
  have h':q0v gn=some ps:=h
  have hg:gn=0:=by
    rcases gn with _ | gn
    . rfl
    . cases h'
  subst hg
  rw [zln] at h'
  cases h'
  have hrow:(E3.qdq W 7).get 0=some (.row (qkr.map E3.qec) 115 0 0 0 false):=E3.qll (zhr (toText hL) hsh)
  rw [zlo] at hrow
  refine ⟨show 0<7 by decide,_,_,_,_,_,hrow,show 0<W.heap.size by have:=zd0 hsh;omega,?_⟩
  refine E3.Rep.eptr (d:=0) (off:=0) hrow (Nat.le_refl 0) (fun h=>h) (by rw [List.length_map,List.length_map];exact Nat.le_of_eq (Nat.zero_add _)) (Nat.le_refl _) (fun j p hp=>?_)
  rw [List.getElem?_map] at hp
  obtain ⟨b,hb,rfl⟩:=Option.map_eq_some_iff.1 hp
  rw [Nat.zero_add,List.getD_eq_getElem?_getD,List.getElem?_map,hb]
  exact .lit

/-! ### The arguments: a sign, a word -/
def good:∀ c,KT c->Prop:=fun _ _=>True
def cdA:Nat->Option Nat:=fun _=>none
theorem zhn:E3.ArgOk good XK szK Tryz.prog cdA 8:=⟨fun e c h=>by cases h⟩

theorem body:∃ c,Tryz.f3.body=some c:=⟨_,rfl⟩

theorem contract (H:Type) (enc:TypeId×Value->H) (W:World) (base:Nat) (args:Array Value) (ds gs:List (DataW H)) (before:List MemPlace)
    (hval:∀ (j:Nat) t v,Tryz.f3.params[j]? = some t->args[j]? = some v->Value.okWide Tryz.prog W .any base t v)
    (hW:DataW.Whole enc Tryz.prog Tryz.f3.params.toList Rows.notateWordsSpec.vars false W args.toList ds gs before) (hL:laidMetH Tryz.prog Rows.notateWordsRow.laid W) (hsh:W.ShapedOpen Tryz.prog) :
    Calls Tryz.prog 3 args W fun e W'=>∃ v,e=.returned v/\Rows.notateWordsSpec.post enc Tryz.prog Tryz.f3 false true false false W args v W':=by
  have hW':=hW
  obtain ⟨p,q,hA0,_⟩:=hW
  have hA:DataW.TrodAll enc Tryz.prog W 0 (fun _=>true) true Tryz.f3.params.toList args.toList ds p:=hA0
  rw [Tryz.params3] at hA hval
  obtain ⟨v1,v2,d1,d2,p1,p2,ha,rfl,rfl,h1,h2⟩:=trodAll_two hA
  subst ha
  obtain ⟨cd,hcd⟩:=body
  have hM:∀ n:Nat,¬ (fun _:Nat=>False) n:=fun n h=>h
  have hsim:=E3.zmv (W:=W) (ng:=7) (zd0 hsh)
  have hlt:∀ nm g x,E3.qch W nm g=some x->nm<(E3.qdq W 7).ro:=by
    intro nm g x h
    obtain ⟨_,arr,e,fz,hb,_⟩:=E3.qak h
    exact (Array.getElem?_eq_some_iff.1 hb).1
  obtain ⟨pv,u,hleaf,hrep,hrelu⟩:=E3.q3p (C:=cfg sp) (ng:=7) (M:=fun _=>False) qaw zhn hM (t:=27) (ls:=[.int .i64,.int .i64,.int .i64,.int .i64,.bool,.int .i64,.bool,.bool,.int .i64,.int .i64,.int .i64,.int .i64,.bool,.int .i64,.int .i64,.int .i64,.int .i64]) Tryz.underlying27 (by kernel_rfl) (hval 0 27 v1 rfl rfl) h1
  obtain ⟨_,_,rfl,⟨n0,rfl,_⟩,_,_,rfl,⟨n1,rfl,_⟩,_,_,rfl,⟨n2,rfl,_⟩,_,_,rfl,⟨n3,rfl,_⟩,_,_,rfl,⟨n4,rfl⟩,_,_,rfl,⟨n5,rfl,_⟩,_,_,rfl,⟨n6,rfl⟩,_,_,rfl,⟨n7,rfl⟩,_,_,rfl,⟨n8,rfl,_⟩,_,_,rfl,⟨n9,rfl,_⟩,_,_,rfl,⟨n10,rfl,_⟩,_,_,rfl,⟨n11,rfl,_⟩,_,_,rfl,⟨n12,rfl⟩,_,_,rfl,⟨n13,rfl,_⟩,_,_,rfl,⟨n14,rfl,_⟩,_,_,rfl,⟨n15,rfl,_⟩,_,_,rfl,⟨n16,rfl,_⟩,rfl⟩:=hleaf
  obtain ⟨qv,u2,hleaf2,hrep2,hrelu2⟩:=E3.zez (C:=cfg sp) (ng:=7) (M:=fun _=>False) qaw zhn hM (t:=9) (leaf:=.str) (by kernel_rfl) (by kernel_rfl) (hval 1 9 v2 rfl rfl) h2
  obtain ⟨nm,rfl,hln⟩:=hleaf2
  have hrel:E2.qi (E3.qch W) W [u,u2] (#[v1,v2]:Array Value).toList:=E2.qi.cons hrelu (E2.qi.cons hrelu2 E2.qi.nil)
  have hstart:E3.Start XK szK (cfg sp) (E3.qdq W 7) (fun _=>False):=by
    refine ⟨fun n hn=>?_,⟨Nat.le_refl _,rfl,laid hL hsh⟩,fun n h=>h.elim,constants hL hsh⟩
    cases hg:(E3.qdq W 7).get n with
    | none=>rfl
    | some o=>
      obtain ⟨arr,e,fz,hb,_⟩:=E3.qm3 hg
      exact absurd (Array.getElem?_eq_some_iff.1 hb).1 (Nat.not_lt.2 hn)
  have hrun:=q03 quiet ze1 ziu n0 n1 n2 n3 n4 n5 n6 n7 n8 n9 n10 n11 n12 n13 n14 n15 n16 nm (Int.le_trans (Int.ofNat_le.2 hln) (by decide)) _ _ [u,u2] hstart (.cons hrep (.cons hrep2 .nil))
  refine (E2.qz3 Tryz.checked.mixed notateAwake.tables zmw Tryz.func3 (by kernel_rfl) hcd hsim hrel hrun).mono fun e W' ⟨v,H',x,G',hR,he,hx,st⟩=>?_
  obtain ⟨w',hR⟩:=hR
  have hr:=hR.rep
  obtain rfl:v=.bool true:=by cases hr;rfl
  simp only [E2.Rel] at hx
  subst hx
  subst he
  have hsame:∀ b,b<W.heap.size->W'.heap[b]? = W.heap[b]?:=E3.q8i st.ext
  refine ⟨_,rfl,E3.qvs (t:=4) hW' rfl rfl Tryz.underlying4 rfl ⟨p1++p2,?_⟩ (fun may=>st.ext.keptBut hlt may)⟩
  rw [Tryz.params3]
  exact trodAll_mk2 (E3.qu4 (by kernel_rfl) (by kernel_rfl) (Nat.le_of_ble_eq_true (by kernel_rfl)) h1 hsame _ fun b hb=>decide_eq_true hb) (E3.qu4 (by kernel_rfl) (by kernel_rfl) (Nat.le_of_ble_eq_true (by kernel_rfl)) h2 hsame _ fun b hb=>decide_eq_true hb)

/-- A WORLD FOR THE WITNESS: the settled one, the tables as their initialisers lay them. -/
def qtk:Nat->DataW Unit->List Value
  | n+1,.agg l=>l.flatMap (qtk n)
  | _+1,.lit (.int k i)=>[.int k i]
  | _+1,.lit (.bool b)=>[.bool b]
  | _+1,.lit (.string s)=>[.string ⟨s.toArray⟩]
  | _,_=>[]
def lay (g:Nat) (cs:List Value) (heap:Array Obj):Array Obj:=
  heap.modify g fun
    | .cells _ t frozen=>.cells cs.toArray t frozen
    | o=>o
def wit:Array Value:=#[.agg #[.int .i64 0,.int .i64 0,.int .i64 0,.int .i64 0,.bool false,.int .i64 0,.bool false,.bool false,.int .i64 0,.int .i64 0,.int .i64 0,.int .i64 0,.bool false,.int .i64 0,.int .i64 0,.int .i64 0,.int .i64 0],.string ⟨#[]⟩]
noncomputable def qpt (os:Os):World:=
  {World.holding Tryz.prog os ⟨#[],wit,[]⟩ with heap:=(lay 6 (qtk 8 Rows.laid_math_bits_deBruijn64tab) (lay 5 (qtk 8 Rows.laid_math_bits_deBruijn32tab) (lay 4 (qtk 8 Rows.laid_internal_strconv_uint64pow10) (lay 3 (qtk 8 Rows.laid_unicode_utf8_acceptRanges) (lay 2 (qtk 8 Rows.laid_unicode_utf8_first) (lay 0 (qtk 8 Rows.laid_tactus_sign_uses) ((World.holding Tryz.prog os ⟨#[],wit,[]⟩).heap)))))))}
theorem zb9 (os:Os):laidMet Tryz.prog Rows.notateWordsRow.laid ((qpt os).forCall (fun _ _=>0) ⟨#[],wit,[]⟩).memory:=
  laidMet_of_run' 8 (by kernel_rfl) (by kernel_rfl)
theorem reads (os:Os) {H:Type} (enc:TypeId×Value->H):∃ places,DataW.whole enc Tryz.prog ((qpt os).forCall (fun _ _=>0) ⟨#[],wit,[]⟩).memory Tryz.f3.params.toList Rows.notateWordsSpec.vars false wit.toList 8=some ([.agg [.lit (.int .i64 0),.lit (.int .i64 0),.lit (.int .i64 0),.lit (.int .i64 0),.lit (.bool false),.lit (.int .i64 0),.lit (.bool false),.lit (.bool false),.agg [.lit (.int .i64 0),.lit (.int .i64 0),.lit (.int .i64 0),.lit (.int .i64 0)],.lit (.bool false),.lit (.int .i64 0),.lit (.int .i64 0),.agg [.lit (.int .i64 0),.lit (.int .i64 0)]],.lit (.string [])],[],places):=
  ⟨[],by kernel_rfl⟩

theorem lifted (os:Os) (started:os.Started) (H:Type) (enc:TypeId×Value->H) (F:Stop.Interp) :
    ReturnsInHanded {} Tryz.checked os 3 .any ((OpenSpec.ofChange Rows.notateWordsSpec).preRow enc Tryz.prog Tryz.f3 Rows.notateWordsRow.domain false Rows.notateWordsRow.laid) (((OpenSpec.ofChange Rows.notateWordsSpec).at F).post enc Tryz.prog Tryz.f3 false true false false):=by
  obtain ⟨places,hx⟩:=reads os enc
  refine returnsInHanded_of_row (C:=Tryz.checked) (s:=OpenSpec.ofChange Rows.notateWordsSpec) own started (by kernel_rfl) Tryz.func3
    (witness_row_at (enc:=enc) (C:=Tryz.checked) false (qpt os) wit rfl (by kernel_rfl) (by kernel_rfl) (by kernel_rfl)
      (OpenSpec.preRow_of_cond 8 hx (by kernel_rfl) (fun k hk=>by cases hk) (by kernel_rfl) (zb9 os))) ?_
  intro W base args ds gs before hval hW _ _ _ hL hsh _
  exact contract H enc W base args ds gs before hval hW hL hsh

theorem said:Rows.NotateWordsSaid:=
  OpenClaim.holds_of_cond 3 Tryz.f3 rfl rfl rfl rfl rfl rfl rfl ⟨rfl,rfl,rfl,rfl,rfl⟩ rfl rfl rfl rfl rfl (by kernel_rfl) Tryz.func3 (by kernel_rfl)
    (of_decide_eq_true (by kernel_rfl)) (by unfold Func.isWrapper;first | (rw [if_pos (by decide +kernel)];kernel_rfl) | (rw [if_neg (by decide +kernel)];exact ⟨rfl,rfl⟩))
    (fun os started H enc _ F=>by rw [OpenClaim.pre_eq_preRow];exact lifted os started H enc F)

/-- No parameter wants a stand-in; the program's own looks. -/
theorem plain (f:FuncId) (fn:Func) (hf:Tryz.pinned.checked.prog.funcNamed "tactus/tactuslaw10.NotateWords" = some f) (hfn:Tryz.pinned.checked.prog.funcs[f]? = some fn) :
    false=Tryz.pinned.checked.prog.looks []/\∀ (j:Nat) t,fn.params[j]? = some t->Tryz.pinned.checked.prog.wantsStandIn t=false:=by
  obtain rfl:f=3:=Option.some.inj ((show Tryz.prog.funcNamed "tactus/tactuslaw10.NotateWords" = some 3 by kernel_rfl).symm.trans hf) |>.symm
  obtain rfl:fn=Tryz.f3:=(Option.some.inj (Tryz.func3.symm.trans hfn)).symm
  refine ⟨by kernel_rfl,fun j t ht=>?_⟩
  rw [Tryz.params3] at ht
  have q0:Tryz.pinned.checked.prog.wantsStandIn 27=false:=by kernel_rfl
  have q1:Tryz.pinned.checked.prog.wantsStandIn 9=false:=by kernel_rfl
  rcases j with _ | _ | j
  . obtain rfl:27=t:=by simpa using ht
    exact q0
  . obtain rfl:9=t:=by simpa using ht
    exact q1
  . simp at ht

/-- THE CARD. -/
theorem card:Rows.NotateWordsCardSaid:=
  Claim7.holds_tied_plain_at .later [] _ _ _ _ said (fun _ h=>by cases h) (by kernel_rfl) (fun _ h=>by cases h) notateWords_row_tie rfl ⟨rfl,rfl⟩ (by kernel_rfl) rfl plain (by kernel_rfl)
#print axioms card
end Go.Proofs.YtbopmiclcimjgaaGreatDoor.notateWords
