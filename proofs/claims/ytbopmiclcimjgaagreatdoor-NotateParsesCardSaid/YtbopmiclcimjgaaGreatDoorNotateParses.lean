/- THE LAW NotateParses of the chapter 10: the call returns true and nothing that was there before it is turned, whatever the arguments. No condition beyond its row's own: the listed variables read as the program's text lays them. -/
import Derived.Test.YtbopmiclcimjgaaGreatDoorCards
import Derived.Test.YtbopmiclcimjgaaGreatDoorTie
import Derived.Test.YtbopmiclcimjgaaGreatDoorFns
import Derived.Test.YtbopmiclcimjgaaGreatDoorM6
import Derived.Test.YtbopmiclcimjgaaGreatDoorNotateAwakeRun
import Derived.Test.YtbopmiclcimjgaaGreatDoorNotateItoa
import Derived.WalkKit
import Derived.ProofKit
import Derived.OpenShut
import Derived.ChangeMaps5
import Derived.Deep.DeepHandedRow
namespace Go.Proofs.YtbopmiclcimjgaaGreatDoor.notateParses
open Go.ChangeShapes Go.WideShapes Go.ChangeAt Go.RowKit Go.ChangeMaps
set_option maxRecDepth 100000
theorem own:ownKnob Tryz.prog.godebug=none:=by kernel_rfl
theorem q4e:notateAwake.qrr.qwh=true:=by kernel_rfl
theorem zd6:E2.qaz Tryz.prog notateAwake.qrr.f notateAwake.qrr.qze:=E2.qw2 Tryz.checked.mixed notateAwake.tables notateAwake.zsl (by kernel_rfl) notateAwake.zhb
def sp (f:Nat):Option (List E2.V->E2.Heap->Option (E2.CR×E2.Heap)):=if f=9 then some notateAwake.qrr.qze else if f=117 then some notateAwake.spI else none
theorem zrb:E3.zgn (cfg sp):=fun f hf=>by
 show sp f=none
 unfold sp
 rw [if_neg,if_neg]
 .rintro rfl
  cases hf
 .rintro rfl
  cases hf
theorem quiet:E3.qt (cfg sp):=⟨zrb,E3.zod (C:=cfg sp) (F:=35) (tB:=70) (tS:=68) (tQ:=128) (tI:=3) (tU:=5) rfl rfl (by kernel_rfl) fun el h=>by
 have:=E3.qgc h
 simp only [qmg,zD,zP,List.not_mem_nil,or_false] at this
 rcases this with ⟨h1,h2⟩ | ⟨h1,h2⟩ | ⟨h1,h2⟩ | ⟨h1,h2⟩ | ⟨h1,h2⟩ | ⟨h1,h2⟩ | ⟨h1,h2⟩<;>first | exact h1 | cases h2⟩
theorem zuy:∀ f s,sp f=some s->E2.qaz Tryz.prog f s:=by
 intro f s h
 unfold sp at h
 split at h
 .rename_i hf
  cases h
  subst hf
  exact zd6
 .split at h
  .rename_i hf
   cases h
   subst hf
   exact notateAwake.zsk
  .cases h
theorem zd5 (H:E2.Heap) (hg:H.zf=(cfg sp).ng) (ho:∀ gn o,(cfg sp).gobj gn=some o->H.get gn=some o/\gn<H.next):E2.qc2 (cfg sp).E (.func 9) [] H fun v H'=>v=.bool true/\H'=H:=
 E2.qv7 (s:=notateAwake.qrr.qze) rfl (E2.zop q4e hg fun x hx=>ho x.1 x.2 (E3.qn7 (by kernel_rfl) hx)) ⟨rfl,rfl⟩
theorem zl0:E3.qal XK szK (cfg sp) 9 [] zez:=E3.zig ka (v:=.bool true) .sb rfl zd5 fun H M=>.sb .rfl .rfl fun h0=>absurd rfl h0
theorem zl1:E3.qbf XK szK (cfg sp) 9 ct9:=by
 intro ns pre r h hp
 unfold ct9 at h
 dsimp only at h
 split at h
 .cases h
  exact ⟨_,rfl,zl0,E3.zi rfl⟩
 .cases h
theorem ziz (H:E2.Heap) (hg:H.zf=(cfg sp).ng) (ho:∀ gn o,(cfg sp).gobj gn=some o->H.get gn=some o/\gn<H.next) {n:Int} (h0:-4<=n) (h1:n<=100):E2.qc2 (cfg sp).E (.func 117) [.int .i64 n] H fun v H'=>v=.str (q0c n)/\H'=H:=by
 have h4:=ho 4 notateAwake.qt8 rfl
 exact E2.qv7 (s:=notateAwake.spI) rfl (notateAwake.zrv h0 h1 hg h4.1 h4.2) ⟨rfl,rfl⟩
theorem zqk {n:Int} (h0:-4<=n) (h1:n<=100):E3.qal XK szK (cfg sp) 117 [.int .i64 none n] (q3x n):=by
 intro H M vs S ra
 obtain ⟨v,vs',rfl,r1,r2⟩:=ra.zv
 have:=r2.kl;subst this
 cases r1
 refine (ziz H S.ro.2.1 S.ro.2.2 h0 h1).mono fun u H' hA=>?_
 obtain ⟨rfl,rfl⟩:=hA
 let w':E3.Wd:={E3.wd0 H' M (cfg sp).codec with owns:=fun _=>some 0}
 have rv':E3.Rep XK szK w' (q3x n) (.str (q0c n)):=E3.Rep.plain (w:=E3.wd0 H' M (cfg sp).codec) (w':=w') (ka (sp:=sp)).plain rfl (fun _ _ _ h=>h) .str .str
 exact ⟨w',.refl H',S.wf,rfl,fun n _=>.rfl,S.Mlt,rfl,rfl,fun _=>rfl,fun i nm he=>(by cases he),fun i j nm he=>(by cases he),rv'⟩
theorem zql:E3.qbf XK szK (cfg sp) 117 qtn:=by
 intro ns pre r h hp
 unfold qtn at h
 dsimp only at h
 split at h
 .cases h
  exact ⟨_,rfl,zqk hp.1 hp.2,E3.zi rfl⟩
 .cases h
theorem qwd {a b:Array Value} {t t':TypeId} {f f':Nat×Nat} (h:some (Obj.cells a t f)=some (Obj.cells b t' f')):t=t':=by
 cases h
 rfl
theorem globals:Tryz.prog.globals.size=7:=by kernel_rfl
theorem zfj:(Rows.notateParsesRow.laid.filter fun x=>x.2.handleName?.isSome)=[]:=by kernel_rfl
noncomputable def qmf:List Value:=(E2.qjx Tryz.prog 10 115 Rows.laid_tactus_sign_uses).getD []
theorem zr8:E2.qjx Tryz.prog 10 115 Rows.laid_tactus_sign_uses=some qmf:=by kernel_rfl
theorem ztn:qmf≠[]:=by
 intro h
 have:qmf.isEmpty=false:=by kernel_rfl
 rw [h] at this
 cases this
theorem zq3:Tryz.prog.globalNamed "tactus/sign.uses" = some 0:=by kernel_rfl
theorem zry:(Tryz.prog.globals[0]?).map (·.type)=some 115:=by kernel_rfl
theorem zuj:((((begin Tryz.prog (fun _ _=>0) default).world).heap[0]?).bind Obj.row?).map (·.2)=some 115:=by kernel_rfl
theorem znj:("tactus/sign.uses",Rows.laid_tactus_sign_uses) ∈ Rows.notateParsesRow.laid:=by
 exact List.mem_of_getElem? (i:=4) rfl
theorem zo6 {W:World} (hL:laidMet Tryz.prog Rows.notateParsesRow.laid W) (hsh:W.ShapedOpen Tryz.prog):W.heap[0]? = some (.cells qmf.toArray 115 (0,0)):=by
 obtain ⟨ps,h1,_,h2⟩:=hL
 obtain ⟨t',h3⟩:=E2.qo7 h1 (fun b off hb=>(h2 b off hb).1) (name:= "tactus/sign.uses") (d:=Rows.laid_tactus_sign_uses) znj zq3 zry zr8 ztn
 have h4:=zuj
 obtain ⟨⟨zero,t⟩,h5,h6⟩:=zM.1 h4
 simp only at h6
 subst h6
 obtain ⟨cs,h7,_⟩:=hsh.1 0 zero 115 (by rw [globals];decide) h5
 have h9:=qwd (h3.symm.trans h7)
 rw [h9] at h3
 exact h3
noncomputable def qwa:List Value:=(E2.qjx Tryz.prog 10 183 Rows.laid_internal_strconv_uint64pow10).getD []
theorem zr9:E2.qjx Tryz.prog 10 183 Rows.laid_internal_strconv_uint64pow10=some qwa:=by kernel_rfl
theorem zto:qwa≠[]:=by
 intro h
 have:qwa.isEmpty=false:=by kernel_rfl
 rw [h] at this
 cases this
theorem zq4:Tryz.prog.globalNamed "internal/strconv.uint64pow10" = some 4:=by kernel_rfl
theorem zrz:(Tryz.prog.globals[4]?).map (·.type)=some 183:=by kernel_rfl
theorem zuk:((((begin Tryz.prog (fun _ _=>0) default).world).heap[4]?).bind Obj.row?).map (·.2)=some 183:=by kernel_rfl
theorem znk:("internal/strconv.uint64pow10",Rows.laid_internal_strconv_uint64pow10) ∈ Rows.notateParsesRow.laid:=by
 exact List.mem_of_getElem? (i:=2) rfl
theorem zsn {W:World} (hL:laidMet Tryz.prog Rows.notateParsesRow.laid W) (hsh:W.ShapedOpen Tryz.prog):W.heap[4]? = some (.cells qwa.toArray 183 (0,0)):=by
 obtain ⟨ps,h1,_,h2⟩:=hL
 obtain ⟨t',h3⟩:=E2.qo7 h1 (fun b off hb=>(h2 b off hb).1) (name:= "internal/strconv.uint64pow10") (d:=Rows.laid_internal_strconv_uint64pow10) znk zq4 zrz zr9 zto
 have h4:=zuk
 obtain ⟨⟨zero,t⟩,h5,h6⟩:=zM.1 h4
 simp only at h6
 subst h6
 obtain ⟨cs,h7,_⟩:=hsh.1 4 zero 183 (by rw [globals];decide) h5
 have h9:=qwd (h3.symm.trans h7)
 rw [h9] at h3
 exact h3
theorem zul:((((begin Tryz.prog (fun _ _=>0) default).world).heap[6]?).bind Obj.row?).map (·.2)=some 189:=by kernel_rfl
theorem zk3 {W:World} (hsh:W.ShapedOpen Tryz.prog):7<=W.heap.size:=by
 obtain ⟨⟨zero,t⟩,h5,h6⟩:=zM.1 zul
 obtain ⟨cs,h7,_⟩:=hsh.1 6 zero t (by rw [globals];decide) h5
 exact (Array.getElem?_eq_some_iff.1 h7).1
theorem qbg:notateAwake.zf=[(0,.row (qmf.map E3.qfb) 115 0 0 0 false),(4,.row (qwa.map E3.qfb) 183 0 0 0 false)]:=by kernel_rfl
theorem toText {W:World} (hL:laidMetH Tryz.prog Rows.notateParsesRow.laid W):laidMet Tryz.prog Rows.notateParsesRow.laid W:=by
 unfold laidMetH at hL
 rw [zfj] at hL
 exact hL
theorem laid {W:World} (hL:laidMetH Tryz.prog Rows.notateParsesRow.laid W) (hsh:W.ShapedOpen Tryz.prog) (gn:Nat) (o:E2.O) (h:(cfg sp).gobj gn=some o):(E3.qen W 7).get gn=some o/\gn<(E3.qen W 7).next:=by
 have hm:=E3.qgc (show E3.look notateAwake.zf gn=some o from h)
 have hsz:=zk3 hsh
 rw [qbg] at hm
 simp only [zD,zP,List.not_mem_nil,or_false] at hm
 rcases hm with ⟨rfl,rfl⟩ | ⟨rfl,rfl⟩
 .exact ⟨E3.qnf (zo6 (toText hL) hsh),show 0<W.heap.size by omega⟩
 .exact ⟨E3.qnf (zsn (toText hL) hsh),show 4<W.heap.size by omega⟩
noncomputable def zpl:List Bool:=qmf.map fun
 | .bool b=>b
 | _=>false
theorem ztv:q5r 0=some (zpl.map E3.P.lit):=by kernel_rfl
theorem ztw:qmf.map E3.qfb=zpl.map E2.V.bool:=by kernel_rfl
theorem constants {W:World} (hL:laidMetH Tryz.prog Rows.notateParsesRow.laid W) (hsh:W.ShapedOpen Tryz.prog) (gn:Nat) (ps:List (E3.PV KT)) (h:(cfg sp).zf gn=some ps) :
  gn<(E3.qen W 7).zf/\∃ vs e fl fz ex,(E3.qen W 7).get gn=some (.row vs e 0 fl fz ex)/\gn<(E3.qen W 7).next/\E3.Rep XK szK (E3.wd0 (E3.qen W 7) (fun _=>False) (cfg sp).codec) (.eptr ps 0) (.ptr gn 0 0 vs.length):=by
 have h':q5r gn=some ps:=h
 have hg:gn=0:=by
  rcases gn with _ | gn
  .rfl
  .cases h'
 subst hg
 rw [ztv] at h'
 cases h'
 have hrow:(E3.qen W 7).get 0=some (.row (qmf.map E3.qfb) 115 0 0 0 false):=E3.qnf (zo6 (toText hL) hsh)
 rw [ztw] at hrow
 refine ⟨show 0<7 by decide,_,_,_,_,_,hrow,show 0<W.heap.size by have:=zk3 hsh;omega,?_⟩
 refine E3.Rep.eptr (d:=0) (off:=0) hrow (zN 0) (fun h=>h) (by rw [List.length_map,List.length_map];exact Nat.le_of_eq (Nat.zero_add _)) (zN _) (fun j p hp=>?_)
 rw [List.getElem?_map] at hp
 obtain ⟨b,hb,rfl⟩:=zM.1 hp
 rw [Nat.zero_add,List.getD_eq_getElem?_getD,List.getElem?_map,hb]
 exact .lit
def good:∀ c,KT c->Prop:=fun _ _=>True
def cdA:Nat->Option Nat:=fun _=>none
theorem zr2:E3.ArgOk good XK szK Tryz.prog cdA 8:=⟨fun e c h=>by cases h⟩
theorem body:∃ c,Tryz.f5.body=some c:=⟨_,rfl⟩
theorem contract (H:Type) (enc:TypeId×Value->H) (W:World) (base:Nat) (args:Array Value) (ds gs:List (DataW H)) (before:List MemPlace)
  (hval:∀ (j:Nat) t v,Tryz.f5.params[j]? = some t->args[j]? = some v->Value.okWide Tryz.prog W .any base t v)
  (hW:DataW.Whole enc Tryz.prog Tryz.f5.params.toList Rows.notateParsesSpec.vars false W args.toList ds gs before) (hL:laidMetH Tryz.prog Rows.notateParsesRow.laid W) (hsh:W.ShapedOpen Tryz.prog) :
  Calls Tryz.prog 5 args W fun e W'=>∃ v,e=.returned v/\Rows.notateParsesSpec.post enc Tryz.prog Tryz.f5 false true false false W args v W':=by
 have hW':=hW
 obtain ⟨p,q,hA0,_⟩:=hW
 have hA:DataW.TrodAll enc Tryz.prog W 0 (fun _=>true) true Tryz.f5.params.toList args.toList ds p:=hA0
 rw [Tryz.params5] at hA hval
 obtain ⟨v1,d1,ha,rfl,h1⟩:=trodAll_one hA
 subst ha
 obtain ⟨cd,hcd⟩:=body
 have hM:∀ n:Nat,¬ (fun _:Nat=>False) n:=fun n h=>h
 have hsim:=E3.zux (W:=W) (ng:=7) (zk3 hsh)
 have hlt:∀ nm g x,E3.qdc W nm g=some x->nm<(E3.qen W 7).ro:=by
  intro nm g x h
  obtain ⟨_,arr,e,fz,hb,_⟩:=E3.qba h
  exact (Array.getElem?_eq_some_iff.1 hb).1
 obtain ⟨pv,u,hleaf,hrep,hrelu⟩:=E3.zlz (C:=cfg sp) (ng:=7) (M:=fun _=>False) j5 zr2 hM (t:=9) (leaf:=.str) (by kernel_rfl) (by kernel_rfl) (hval 0 9 v1 rfl rfl) h1
 obtain ⟨nm,rfl,hln⟩:=hleaf
 have hrel:E2.qk (E3.qdc W) W [u] (#[v1]:Array Value).toList:=E2.qk.cons hrelu E2.qk.nil
 have hstart:E3.Start XK szK (cfg sp) (E3.qen W 7) (fun _=>False):=by
  refine ⟨fun n hn=>?_,⟨zN _,rfl,laid hL hsh⟩,fun n h=>h.elim,constants hL hsh⟩
  cases hg:(E3.qen W 7).get n with
  | none=>rfl
  | some o=>
   obtain ⟨arr,e,fz,hb,_⟩:=E3.qo2 hg
   exact absurd (Array.getElem?_eq_some_iff.1 hb).1 (Nat.not_lt.2 hn)
 have hrun:=q2m quiet zl1 zql nm (Int.le_trans (Int.ofNat_le.2 hln) (by decide)) _ _ [u] hstart (.cons hrep .nil)
 refine (E2.q4l Tryz.checked.mixed notateAwake.tables zuy Tryz.func5 (by kernel_rfl) hcd hsim hrel hrun).mono fun e W' ⟨v,H',x,G',hR,he,hx,st⟩=>?_
 obtain ⟨w',hR⟩:=hR
 have hr:=hR.rep
 obtain rfl:v=.bool true:=by cases hr;rfl
 simp only [E2.Rel] at hx
 subst hx
 subst he
 have hsame:∀ b,b<W.heap.size->W'.heap[b]? = W.heap[b]?:=E3.zel st.ext
 refine ⟨_,rfl,E3.qy7 (t:=4) hW' rfl rfl Tryz.underlying4 rfl ⟨p,?_⟩ (fun may=>st.ext.keptBut hlt may)⟩
 rw [Tryz.params5]
 exact trodAll_mk1 (E3.zav (by kernel_rfl) (by kernel_rfl) (Nat.le_of_ble_eq_true (by kernel_rfl)) h1 hsame _ fun b hb=>decide_eq_true hb)
def qwv:Nat->DataW Unit->List Value
 | n+1,.agg l=>l.flatMap (qwv n)
 | _+1,.lit (.int k i)=>[.int k i]
 | _+1,.lit (.bool b)=>[.bool b]
 | _+1,.lit (.string s)=>[.string ⟨s.toArray⟩]
 | _,_=>[]
def lay (g:Nat) (cs:List Value) (heap:Array Obj):Array Obj:=
 heap.modify g fun
  | .cells _ t frozen=>.cells cs.toArray t frozen
  | o=>o
def wit:Array Value:=#[.string ⟨#[]⟩]
noncomputable def qr8 (os:Os):World:=
 {World.holding Tryz.prog os ⟨#[],wit,[]⟩ with heap:=(lay 6 (qwv 8 Rows.laid_math_bits_deBruijn64tab) (lay 5 (qwv 8 Rows.laid_math_bits_deBruijn32tab) (lay 4 (qwv 8 Rows.laid_internal_strconv_uint64pow10) (lay 3 (qwv 8 Rows.laid_unicode_utf8_acceptRanges) (lay 2 (qwv 8 Rows.laid_unicode_utf8_first) (lay 0 (qwv 8 Rows.laid_tactus_sign_uses) ((World.holding Tryz.prog os ⟨#[],wit,[]⟩).heap)))))))}
theorem zi7 (os:Os):laidMet Tryz.prog Rows.notateParsesRow.laid ((qr8 os).forCall (fun _ _=>0) ⟨#[],wit,[]⟩).memory:=
 laidMet_of_run' 8 (by kernel_rfl) (by kernel_rfl)
theorem reads (os:Os) {H:Type} (enc:TypeId×Value->H):∃ places,DataW.whole enc Tryz.prog ((qr8 os).forCall (fun _ _=>0) ⟨#[],wit,[]⟩).memory Tryz.f5.params.toList Rows.notateParsesSpec.vars false wit.toList 8=some ([.lit (.string [])],[],places):=
 ⟨[],by kernel_rfl⟩
theorem lifted (os:Os) (started:os.Started) (H:Type) (enc:TypeId×Value->H) (F:Stop.Interp) :
  ReturnsInHanded {} Tryz.checked os 5 .any ((OpenSpec.ofChange Rows.notateParsesSpec).preRow enc Tryz.prog Tryz.f5 Rows.notateParsesRow.domain false Rows.notateParsesRow.laid) (((OpenSpec.ofChange Rows.notateParsesSpec).at F).post enc Tryz.prog Tryz.f5 false true false false):=by
 obtain ⟨places,hx⟩:=reads os enc
 refine returnsInHanded_of_row (C:=Tryz.checked) (s:=OpenSpec.ofChange Rows.notateParsesSpec) own started (by kernel_rfl) Tryz.func5
  (witness_row_at (enc:=enc) (C:=Tryz.checked) false (qr8 os) wit rfl (by kernel_rfl) (by kernel_rfl) (by kernel_rfl)
    (OpenSpec.preRow_of_cond 8 hx (by kernel_rfl) (fun k hk=>by cases hk) (by kernel_rfl) (zi7 os))) ?_
 intro W base args ds gs before hval hW _ _ _ hL hsh _
 exact contract H enc W base args ds gs before hval hW hL hsh
theorem said:Rows.NotateParsesSaid:=
 OpenClaim.holds_of_cond 5 Tryz.f5 rfl rfl rfl rfl rfl rfl rfl ⟨rfl,rfl,rfl,rfl,rfl⟩ rfl rfl rfl rfl rfl (by kernel_rfl) Tryz.func5 (by kernel_rfl)
  (of_decide_eq_true (by kernel_rfl)) (by unfold Func.isWrapper;first | (rw [if_pos (by decide +kernel)];kernel_rfl) | (rw [if_neg (by decide +kernel)];exact ⟨rfl,rfl⟩))
  (fun os started H enc _ F=>by rw [OpenClaim.pre_eq_preRow];exact lifted os started H enc F)
theorem plain (f:FuncId) (fn:Func) (hf:Tryz.pinned.checked.prog.funcNamed "tactus/tactuslaw10.NotateParses" = some f) (hfn:Tryz.pinned.checked.prog.funcs[f]? = some fn) :
  false=Tryz.pinned.checked.prog.looks []/\∀ (j:Nat) t,fn.params[j]? = some t->Tryz.pinned.checked.prog.wantsStandIn t=false:=by
 obtain rfl:f=5:=Option.some.inj ((show Tryz.prog.funcNamed "tactus/tactuslaw10.NotateParses" = some 5 by kernel_rfl).symm.trans hf) |>.symm
 obtain rfl:fn=Tryz.f5:=(Option.some.inj (Tryz.func5.symm.trans hfn)).symm
 refine ⟨by kernel_rfl,fun j t ht=>?_⟩
 rw [Tryz.params5] at ht
 have q0:Tryz.pinned.checked.prog.wantsStandIn 9=false:=by kernel_rfl
 rcases j with _ | j
 .obtain rfl:9=t:=by simpa using ht
  exact q0
 .simp at ht
theorem card:Rows.NotateParsesCardSaid:=
 Claim7.holds_tied_plain_at .later [] _ _ _ _ said (fun _ h=>by cases h) (by kernel_rfl) (fun _ h=>by cases h) notateParses_row_tie rfl ⟨rfl,rfl⟩ (by kernel_rfl) rfl plain (by kernel_rfl)
#print axioms card
end Go.Proofs.YtbopmiclcimjgaaGreatDoor.notateParses
