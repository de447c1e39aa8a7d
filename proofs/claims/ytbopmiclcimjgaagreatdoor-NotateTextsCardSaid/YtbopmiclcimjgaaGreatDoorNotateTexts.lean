/- THE LAW NotateTexts of the chapter 10: the call returns true and nothing that was there before it is turned, whatever the arguments. No condition beyond its row's own: the listed variables read as the program's text lays them. -/
import Derived.Test.YtbopmiclcimjgaaGreatDoorCards
import Derived.Test.YtbopmiclcimjgaaGreatDoorTie
import Derived.Test.YtbopmiclcimjgaaGreatDoorFnsT
import Derived.Test.YtbopmiclcimjgaaGreatDoorM6
import Derived.Test.YtbopmiclcimjgaaGreatDoorNotateAwakeRun
import Derived.Test.YtbopmiclcimjgaaGreatDoorNotateItoa
import Derived.WalkKit
import Derived.ProofKit
import Derived.OpenShut
import Derived.ChangeMaps5
import Derived.Deep.DeepHandedRow
namespace Go.Proofs.YtbopmiclcimjgaaGreatDoor.notateTexts
open Go.ChangeShapes Go.WideShapes Go.ChangeAt Go.RowKit Go.ChangeMaps
set_option maxRecDepth 100000

theorem own:ownKnob Tryz.prog.godebug=none:=by kernel_rfl
theorem qxi:notateAwake.qnd.qq6=true:=by kernel_rfl
theorem q4l:E2.jr Tryz.prog notateAwake.qnd.f notateAwake.qnd.qtm:=E2.qrp Tryz.checked.mixed notateAwake.tables notateAwake.ze5 (by kernel_rfl) notateAwake.q64

/-- The calls that are answered by facts: 'awake', 'strconv.Itoa' at the numbers of signs. -/
def sp (f:Nat):Option (List E2.V->E2.Heap->Option (E2.CR×E2.Heap)):=if f=9 then some notateAwake.qnd.qtm else if f=117 then some notateAwake.spI else none
theorem zd7:E3.q6l (cfg sp):=fun f hf=>by
  show sp f=none
  unfold sp
  rw [if_neg,if_neg]
  . rintro rfl
    cases hf
  . rintro rfl
    cases hf
theorem quiet:E3.qw (cfg sp):=⟨zd7,E3.zb3 (C:=cfg sp) (F:=35) (tB:=70) (tS:=68) (tQ:=128) (tI:=3) (tU:=5) rfl rfl (by kernel_rfl) fun el h=>by
  have:=E3.qc8 h
  simp only [qix,List.mem_cons,Prod.mk.injEq,List.not_mem_nil,or_false] at this
  rcases this with ⟨h1,h2⟩ | ⟨h1,h2⟩ | ⟨h1,h2⟩ | ⟨h1,h2⟩ | ⟨h1,h2⟩<;>first | exact h1 | cases h2⟩
theorem zgp:∀ f s,sp f=some s->E2.jr Tryz.prog f s:=by
  intro f s h
  unfold sp at h
  split at h
  . rename_i hf
    cases h
    subst hf
    exact q4l
  . split at h
    . rename_i hf
      cases h
      subst hf
      exact notateAwake.ze4
    . cases h
theorem q4k (H:E2.Heap) (hg:H.qx=(cfg sp).ng) (ho:∀ gn o,(cfg sp).gobj gn=some o->H.get gn=some o/\gn<H.next):E2.qbi (cfg sp).E (.func 9) [] H fun v H'=>v=.bool true/\H'=H:=
  E2.qqz (s:=notateAwake.qnd.qtm) rfl (E2.zcd qxi hg fun x hx=>ho x.1 x.2 (E3.qka (by kernel_rfl) hx)) ⟨rfl,rfl⟩
theorem zad:E3.qaj XK szK (cfg sp) 9 [] q45:=E3.q7l kf (v:=.bool true) .sb rfl q4k fun H M=>.sb .rfl .rfl fun h0=>absurd rfl h0
theorem zae:E3.qba XK szK (cfg sp) 9 ct9:=by
  intro ns pre r h hp
  unfold ct9 at h
  dsimp only at h
  split at h
  . cases h
    exact ⟨_,rfl,zad,E3.ze rfl⟩
  . cases h
theorem q7z (H:E2.Heap) (hg:H.qx=(cfg sp).ng) (ho:∀ gn o,(cfg sp).gobj gn=some o->H.get gn=some o/\gn<H.next) {n:Int} (h0:-4<=n) (h1:n<=100):E2.qbi (cfg sp).E (.func 117) [.int .i64 n] H fun v H'=>v=.str (qu n)/\H'=H:=by
  have h4:=ho 4 notateAwake.qpg rfl
  exact E2.qqz (s:=notateAwake.spI) rfl (notateAwake.zee h0 h1 hg h4.1 h4.2) ⟨rfl,rfl⟩
theorem zds {n:Int} (h0:-4<=n) (h1:n<=100):E3.qaj XK szK (cfg sp) 117 [.int .i64 none n] (qw0 n):=by
  intro H M vs S ra
  obtain ⟨v,vs',rfl,r1,r2⟩:=ra.zj
  have:=r2.zq;subst this
  cases r1
  refine (q7z H S.ro.2.1 S.ro.2.2 h0 h1).mono fun u H' hA=>?_
  obtain ⟨rfl,rfl⟩:=hA
  let w':E3.Wd:={E3.wd0 H' M (cfg sp).codec with owns:=fun _=>some 0}
  have rv':E3.Rep XK szK w' (qw0 n) (.str (qu n)):=E3.Rep.plain (w:=E3.wd0 H' M (cfg sp).codec) (w':=w') (kf (sp:=sp)).plain rfl (fun _ _ _ h=>h) .str .str
  exact ⟨w',.refl H',S.wf,rfl,fun n _=>.rfl,S.Mlt,rfl,rfl,fun _=>rfl,fun i nm he=>(by cases he),fun i j nm he=>(by cases he),rv'⟩
theorem zdt:E3.qba XK szK (cfg sp) 117 qov:=by
  intro ns pre r h hp
  unfold qov at h
  dsimp only at h
  split at h
  . cases h
    exact ⟨_,rfl,zds hp.1 hp.2,E3.ze rfl⟩
  . cases h

/-! ### The listed variables -/
theorem qq5 {a b:Array Value} {t t':TypeId} {f f':Nat×Nat} (h:some (Obj.cells a t f)=some (Obj.cells b t' f')):t=t':=by
  cases h
  rfl
theorem globals:Tryz.prog.globals.size=7:=by kernel_rfl
theorem q5q:(Rows.notateTextsRow.laid.filter fun x=>x.2.handleName?.isSome)=[]:=by kernel_rfl
noncomputable def qiw:List Value:=(E2.qg0 Tryz.prog 10 115 Rows.laid_tactus_sign_uses).getD []
theorem zes:E2.qg0 Tryz.prog 10 115 Rows.laid_tactus_sign_uses=some qiw:=by kernel_rfl
theorem zfl:qiw≠[]:=by
  intro h
  have:qiw.isEmpty=false:=by kernel_rfl
  rw [h] at this
  cases this
theorem zd0:Tryz.prog.globalNamed "tactus/sign.uses" = some 0:=by kernel_rfl
theorem zef:(Tryz.prog.globals[0]?).map (·.type)=some 115:=by kernel_rfl
theorem zga:((((begin Tryz.prog (fun _ _=>0) default).world).heap[0]?).bind Obj.row?).map (·.2)=some 115:=by kernel_rfl
theorem zbj:("tactus/sign.uses",Rows.laid_tactus_sign_uses) ∈ Rows.notateTextsRow.laid:=by
  exact List.mem_of_getElem? (i:=4) rfl
theorem zcs {W:World} (hL:laidMet Tryz.prog Rows.notateTextsRow.laid W) (hsh:W.ShapedOpen Tryz.prog):W.heap[0]? = some (.cells qiw.toArray 115 (0,0)):=by
  obtain ⟨ps,h1,_,h2⟩:=hL
  obtain ⟨t',h3⟩:=E2.qk8 h1 (fun b off hb=>(h2 b off hb).1) (name:= "tactus/sign.uses") (d:=Rows.laid_tactus_sign_uses) zbj zd0 zef zes zfl
  have h4:=zga
  obtain ⟨⟨zero,t⟩,h5,h6⟩:=Option.map_eq_some_iff.1 h4
  simp only at h6
  subst h6
  obtain ⟨cs,h7,_⟩:=hsh.1 0 zero 115 (by rw [globals];decide) h5
  have h9:=qq5 (h3.symm.trans h7)
  rw [h9] at h3
  exact h3
noncomputable def qq2:List Value:=(E2.qg0 Tryz.prog 10 183 Rows.laid_internal_strconv_uint64pow10).getD []
theorem zet:E2.qg0 Tryz.prog 10 183 Rows.laid_internal_strconv_uint64pow10=some qq2:=by kernel_rfl
theorem zfm:qq2≠[]:=by
  intro h
  have:qq2.isEmpty=false:=by kernel_rfl
  rw [h] at this
  cases this
theorem zd1:Tryz.prog.globalNamed "internal/strconv.uint64pow10" = some 4:=by kernel_rfl
theorem zeg:(Tryz.prog.globals[4]?).map (·.type)=some 183:=by kernel_rfl
theorem zgb:((((begin Tryz.prog (fun _ _=>0) default).world).heap[4]?).bind Obj.row?).map (·.2)=some 183:=by kernel_rfl
theorem zbk:("internal/strconv.uint64pow10",Rows.laid_internal_strconv_uint64pow10) ∈ Rows.notateTextsRow.laid:=by
  exact List.mem_of_getElem? (i:=2) rfl
theorem ze7 {W:World} (hL:laidMet Tryz.prog Rows.notateTextsRow.laid W) (hsh:W.ShapedOpen Tryz.prog):W.heap[4]? = some (.cells qq2.toArray 183 (0,0)):=by
  obtain ⟨ps,h1,_,h2⟩:=hL
  obtain ⟨t',h3⟩:=E2.qk8 h1 (fun b off hb=>(h2 b off hb).1) (name:= "internal/strconv.uint64pow10") (d:=Rows.laid_internal_strconv_uint64pow10) zbk zd1 zeg zet zfm
  have h4:=zgb
  obtain ⟨⟨zero,t⟩,h5,h6⟩:=Option.map_eq_some_iff.1 h4
  simp only at h6
  subst h6
  obtain ⟨cs,h7,_⟩:=hsh.1 4 zero 183 (by rw [globals];decide) h5
  have h9:=qq5 (h3.symm.trans h7)
  rw [h9] at h3
  exact h3
theorem zgc:((((begin Tryz.prog (fun _ _=>0) default).world).heap[6]?).bind Obj.row?).map (·.2)=some 189:=by kernel_rfl
theorem q9h {W:World} (hsh:W.ShapedOpen Tryz.prog):7<=W.heap.size:=by
  obtain ⟨⟨zero,t⟩,h5,h6⟩:=Option.map_eq_some_iff.1 zgc
  obtain ⟨cs,h7,_⟩:=hsh.1 6 zero t (by rw [globals];decide) h5
  exact (Array.getElem?_eq_some_iff.1 h7).1
theorem j6:notateAwake.qx=[(0,.row (qiw.map E3.qdh) 115 0 0 0 false),(4,.row (qq2.map E3.qdh) 183 0 0 0 false)]:=by kernel_rfl
theorem toText {W:World} (hL:laidMetH Tryz.prog Rows.notateTextsRow.laid W):laidMet Tryz.prog Rows.notateTextsRow.laid W:=by
  unfold laidMetH at hL
  rw [q5q] at hL
  exact hL
/-- The variables lie there. -/
theorem laid {W:World} (hL:laidMetH Tryz.prog Rows.notateTextsRow.laid W) (hsh:W.ShapedOpen Tryz.prog) (gn:Nat) (o:E2.O) (h:(cfg sp).gobj gn=some o):(E3.qc7 W 7).get gn=some o/\gn<(E3.qc7 W 7).next:=by
  have hm:=E3.qc8 (show E3.look notateAwake.qx gn=some o from h)
  have hsz:=q9h hsh
  rw [j6] at hm
  simp only [List.mem_cons,Prod.mk.injEq,List.not_mem_nil,or_false] at hm
  rcases hm with ⟨rfl,rfl⟩ | ⟨rfl,rfl⟩
  . exact ⟨E3.qjo (zcs (toText hL) hsh),show 0<W.heap.size by omega⟩
  . exact ⟨E3.qjo (ze7 (toText hL) hsh),show 4<W.heap.size by omega⟩
/-- The fields that are used, as truth values. -/
noncomputable def zcz:List Bool:=qiw.map fun
  | .bool b=>b
  | _=>false
theorem zfs:qyg 0=some (zcz.map E3.P.lit):=by kernel_rfl
theorem zft:qiw.map E3.qdh=zcz.map E2.V.bool:=by kernel_rfl
theorem constants {W:World} (hL:laidMetH Tryz.prog Rows.notateTextsRow.laid W) (hsh:W.ShapedOpen Tryz.prog) (gn:Nat) (ps:List (E3.PV KT)) (h:(cfg sp).qx gn=some ps) :
    gn<(E3.qc7 W 7).qx/\∃ vs e fl fz ex,(E3.qc7 W 7).get gn=some (.row vs e 0 fl fz ex)/\gn<(E3.qc7 W 7).next/\E3.Rep XK szK (E3.wd0 (E3.qc7 W 7) (fun _=>False) (cfg sp).codec) (.eptr ps 0) (.ptr gn 0 0 vs.length):=by
  have h':qyg gn=some ps:=h
  have hg:gn=0:=by
    rcases gn with _ | gn
    . rfl
    . cases h'
  subst hg
  rw [zfs] at h'
  cases h'
  have hrow:(E3.qc7 W 7).get 0=some (.row (qiw.map E3.qdh) 115 0 0 0 false):=E3.qjo (zcs (toText hL) hsh)
  rw [zft] at hrow
  refine ⟨show 0<7 by decide,_,_,_,_,_,hrow,show 0<W.heap.size by have:=q9h hsh;omega,?_⟩
  refine E3.Rep.eptr (d:=0) (off:=0) hrow (Nat.le_refl 0) (fun h=>h) (by rw [List.length_map,List.length_map];exact Nat.le_of_eq (Nat.zero_add _)) (Nat.le_refl _) (fun j p hp=>?_)
  rw [List.getElem?_map] at hp
  obtain ⟨b,hb,rfl⟩:=Option.map_eq_some_iff.1 hp
  rw [Nat.zero_add,List.getD_eq_getElem?_getD,List.getElem?_map,hb]
  exact .lit

/-! ### The arguments: a part -/
def good:∀ c,KT c->Prop:=fun _ _=>True
def cdA:Nat->Option Nat:=E3.look [(27,4)]
theorem zem:E3.ArgOk good XK szK Tryz.prog cdA 8:=by
  refine ⟨fun e c h=>?_⟩
  have:=E3.qc8 h
  simp only [List.mem_cons,Prod.mk.injEq,List.not_mem_nil,or_false] at this
  obtain ⟨rfl,rfl⟩:=this
  refine ⟨[.int .i64,.int .i64,.int .i64,.int .i64,.bool,.int .i64,.bool,.bool,.int .i64,.int .i64,.int .i64,.int .i64,.bool,.int .i64,.int .i64,.int .i64,.int .i64],by kernel_rfl,rfl,rfl,by kernel_rfl,by decide,fun ps h=>?_⟩
  obtain ⟨p0,q0,rfl,⟨n0,rfl,_⟩,p1,q1,rfl,⟨n1,rfl,_⟩,p2,q2,rfl,⟨n2,rfl,_⟩,p3,q3,rfl,⟨n3,rfl,_⟩,p4,q4,rfl,⟨n4,rfl⟩,p5,q5,rfl,⟨n5,rfl,_⟩,p6,q6,rfl,⟨n6,rfl⟩,p7,q7,rfl,⟨n7,rfl⟩,p8,q8,rfl,⟨n8,rfl,_⟩,p9,q9,rfl,⟨n9,rfl,_⟩,p10,q10,rfl,⟨n10,rfl,_⟩,p11,q11,rfl,⟨n11,rfl,_⟩,p12,q12,rfl,⟨n12,rfl⟩,p13,q13,rfl,⟨n13,rfl,_⟩,p14,q14,rfl,⟨n14,rfl,_⟩,p15,q15,rfl,⟨n15,rfl,_⟩,p16,q16,rfl,⟨n16,rfl,_⟩,rfl⟩:=h
  exact ⟨True,⟨n0,n1,n2,n3,n4,n5,n6,n7,n8,n9,n10,n11,n12,n13,n14,n15,n16⟩,rfl,trivial,trivial⟩

theorem body:∃ c,Tryz.f4.body=some c:=⟨_,rfl⟩

theorem contract (H:Type) (enc:TypeId×Value->H) (W:World) (base:Nat) (args:Array Value) (ds gs:List (DataW H)) (before:List MemPlace)
    (hval:∀ (j:Nat) t v,Tryz.f4.params[j]? = some t->args[j]? = some v->Value.okWide Tryz.prog W .any base t v)
    (hW:DataW.Whole enc Tryz.prog Tryz.f4.params.toList Rows.notateTextsSpec.vars false W args.toList ds gs before) (hL:laidMetH Tryz.prog Rows.notateTextsRow.laid W) (hsh:W.ShapedOpen Tryz.prog) :
    Calls Tryz.prog 4 args W fun e W'=>∃ v,e=.returned v/\Rows.notateTextsSpec.post enc Tryz.prog Tryz.f4 false true false false W args v W':=by
  have hW':=hW
  obtain ⟨p,q,hA0,_⟩:=hW
  have hA:DataW.TrodAll enc Tryz.prog W 0 (fun _=>true) true Tryz.f4.params.toList args.toList ds p:=hA0
  rw [Tryz.params4] at hA hval
  obtain ⟨v1,d1,ha,rfl,h1⟩:=trodAll_one hA
  subst ha
  obtain ⟨cd,hcd⟩:=body
  have hM:∀ n:Nat,¬ (fun _:Nat=>False) n:=fun n h=>h
  have hsim:=E3.zgo (W:=W) (ng:=7) (q9h hsh)
  have hlt:∀ nm g x,E3.qb9 W nm g=some x->nm<(E3.qc7 W 7).ro:=by
    intro nm g x h
    obtain ⟨_,arr,e,fz,hb,_⟩:=E3.jx h
    exact (Array.getElem?_eq_some_iff.1 hb).1
  obtain ⟨pv,u,hleaf,hrep,hrelu⟩:=E3.q0s (C:=cfg sp) (ng:=7) (M:=fun _=>False) qag zem hM (t:=37) (ls:=[.str,.list 4]) Tryz.underlying37 (by kernel_rfl) (hval 0 37 v1 rfl rfl) h1
  obtain ⟨_,_,rfl,⟨nm,rfl,hln⟩,_,_,rfl,⟨l,rfl,hll,hgl⟩,rfl⟩:=hleaf
  have hrel:E2.qe (E3.qb9 W) W [u] (#[v1]:Array Value).toList:=E2.qe.cons hrelu E2.qe.nil
  have hstart:E3.Start XK szK (cfg sp) (E3.qc7 W 7) (fun _=>False):=by
    refine ⟨fun n hn=>?_,⟨Nat.le_refl _,rfl,laid hL hsh⟩,fun n h=>h.elim,constants hL hsh⟩
    cases hg:(E3.qc7 W 7).get n with
    | none=>rfl
    | some o=>
      obtain ⟨arr,e,fz,hb,_⟩:=E3.qk3 hg
      exact absurd (Array.getElem?_eq_some_iff.1 hb).1 (Nat.not_lt.2 hn)
  have hrun:=qyo quiet zae zdt nm l ⟨Int.le_trans (Int.ofNat_le.2 hln) (by decide),Int.le_trans (Int.ofNat_le.2 hll) (by decide)⟩ _ _ [u] hstart (.cons hrep .nil)
  refine (E2.qxp Tryz.checked.mixed notateAwake.tables zgp Tryz.func4 (by kernel_rfl) hcd hsim hrel hrun).mono fun e W' ⟨v,H',x,G',hR,he,hx,st⟩=>?_
  obtain ⟨w',hR⟩:=hR
  have hr:=hR.rep
  obtain rfl:v=.bool true:=by cases hr;rfl
  simp only [E2.Rel] at hx
  subst hx
  subst he
  have hsame:∀ b,b<W.heap.size->W'.heap[b]? = W.heap[b]?:=E3.q4s st.ext
  refine ⟨_,rfl,E3.qtg (t:=4) hW' rfl rfl Tryz.underlying4 rfl ⟨p,?_⟩ (fun may=>st.ext.keptBut hlt may)⟩
  rw [Tryz.params4]
  exact trodAll_mk1 (E3.q2b (by kernel_rfl) (by kernel_rfl) (Nat.le_of_ble_eq_true (by kernel_rfl)) h1 hsame _ fun b hb=>decide_eq_true hb)

/-- A WORLD FOR THE WITNESS: the settled one, the tables as their initialisers lay them. -/
def qrh:Nat->DataW Unit->List Value
  | n+1,.agg l=>l.flatMap (qrh n)
  | _+1,.lit (.int k i)=>[.int k i]
  | _+1,.lit (.bool b)=>[.bool b]
  | _+1,.lit (.string s)=>[.string ⟨s.toArray⟩]
  | _,_=>[]
def lay (g:Nat) (cs:List Value) (heap:Array Obj):Array Obj:=
  heap.modify g fun
    | .cells _ t frozen=>.cells cs.toArray t frozen
    | o=>o
def wit:Array Value:=#[.agg #[.string ⟨#[]⟩,.slice none 0 0]]
noncomputable def qnr (os:Os):World:=
  {World.holding Tryz.prog os ⟨#[],wit,[]⟩ with heap:=(lay 6 (qrh 8 Rows.laid_math_bits_deBruijn64tab) (lay 5 (qrh 8 Rows.laid_math_bits_deBruijn32tab) (lay 4 (qrh 8 Rows.laid_internal_strconv_uint64pow10) (lay 3 (qrh 8 Rows.laid_unicode_utf8_acceptRanges) (lay 2 (qrh 8 Rows.laid_unicode_utf8_first) (lay 0 (qrh 8 Rows.laid_tactus_sign_uses) ((World.holding Tryz.prog os ⟨#[],wit,[]⟩).heap)))))))}
theorem q73 (os:Os):laidMet Tryz.prog Rows.notateTextsRow.laid ((qnr os).forCall (fun _ _=>0) ⟨#[],wit,[]⟩).memory:=
  laidMet_of_run' 8 (by kernel_rfl) (by kernel_rfl)
theorem reads (os:Os) {H:Type} (enc:TypeId×Value->H):∃ places,DataW.whole enc Tryz.prog ((qnr os).forCall (fun _ _=>0) ⟨#[],wit,[]⟩).memory Tryz.f4.params.toList Rows.notateTextsSpec.vars false wit.toList 8=some ([.agg [.lit (.string []),.nil]],[],places):=
  ⟨[],by kernel_rfl⟩

theorem lifted (os:Os) (started:os.Started) (H:Type) (enc:TypeId×Value->H) (F:Stop.Interp) :
    ReturnsInHanded {} Tryz.checked os 4 .any ((OpenSpec.ofChange Rows.notateTextsSpec).preRow enc Tryz.prog Tryz.f4 Rows.notateTextsRow.domain false Rows.notateTextsRow.laid) (((OpenSpec.ofChange Rows.notateTextsSpec).at F).post enc Tryz.prog Tryz.f4 false true false false):=by
  obtain ⟨places,hx⟩:=reads os enc
  refine returnsInHanded_of_row (C:=Tryz.checked) (s:=OpenSpec.ofChange Rows.notateTextsSpec) own started (by kernel_rfl) Tryz.func4
    (witness_row_at (enc:=enc) (C:=Tryz.checked) false (qnr os) wit rfl (by kernel_rfl) (by kernel_rfl) (by kernel_rfl)
      (OpenSpec.preRow_of_cond 8 hx (by kernel_rfl) (fun k hk=>by cases hk) (by kernel_rfl) (q73 os))) ?_
  intro W base args ds gs before hval hW _ _ _ hL hsh _
  exact contract H enc W base args ds gs before hval hW hL hsh

theorem said:Rows.NotateTextsSaid:=
  OpenClaim.holds_of_cond 4 Tryz.f4 rfl rfl rfl rfl rfl rfl rfl ⟨rfl,rfl,rfl,rfl,rfl⟩ rfl rfl rfl rfl rfl (by kernel_rfl) Tryz.func4 (by kernel_rfl)
    (of_decide_eq_true (by kernel_rfl)) (by unfold Func.isWrapper;first | (rw [if_pos (by decide +kernel)];kernel_rfl) | (rw [if_neg (by decide +kernel)];exact ⟨rfl,rfl⟩))
    (fun os started H enc _ F=>by rw [OpenClaim.pre_eq_preRow];exact lifted os started H enc F)

/-- No parameter wants a stand-in; the program's own looks. -/
theorem plain (f:FuncId) (fn:Func) (hf:Tryz.pinned.checked.prog.funcNamed "tactus/tactuslaw10.NotateTexts" = some f) (hfn:Tryz.pinned.checked.prog.funcs[f]? = some fn) :
    false=Tryz.pinned.checked.prog.looks []/\∀ (j:Nat) t,fn.params[j]? = some t->Tryz.pinned.checked.prog.wantsStandIn t=false:=by
  obtain rfl:f=4:=Option.some.inj ((show Tryz.prog.funcNamed "tactus/tactuslaw10.NotateTexts" = some 4 by kernel_rfl).symm.trans hf) |>.symm
  obtain rfl:fn=Tryz.f4:=(Option.some.inj (Tryz.func4.symm.trans hfn)).symm
  refine ⟨by kernel_rfl,fun j t ht=>?_⟩
  rw [Tryz.params4] at ht
  have q0:Tryz.pinned.checked.prog.wantsStandIn 37=false:=by kernel_rfl
  rcases j with _ | j
  . obtain rfl:37=t:=by simpa using ht
    exact q0
  . simp at ht

/-- THE CARD. -/
theorem card:Rows.NotateTextsCardSaid:=
  Claim7.holds_tied_plain_at .later [] _ _ _ _ said (fun _ h=>by cases h) (by kernel_rfl) (fun _ h=>by cases h) notateTexts_row_tie rfl ⟨rfl,rfl⟩ (by kernel_rfl) rfl plain (by kernel_rfl)
#print axioms card
end Go.Proofs.YtbopmiclcimjgaaGreatDoor.notateTexts
