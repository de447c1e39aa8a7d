import Derived.Test.YtpbliaccnbgapaaGreatDoorFns
import Derived.Test.YtpbliaccnbgapaaGreatDoorM6
import Derived.Test.YtpbliaccnbgapaaGreatDoorEtItoa
import Derived.Test.YtpbliaccnbgapaaGreatDoorEventVars
import Derived.Test.YtpbliaccnbgapaaGreatDoorEventWit
import Derived.Test.YtpbliaccnbgapaaGreatDoorEventKnownRun
import Derived.WalkKit
import Derived.ProofKit
import Derived.OpenShut
import Derived.ChangeMaps5
import Derived.Deep.DeepHandedRow
namespace Go.Proofs.YtpbliaccnbgapaaGreatDoor.eventSounds
open Go.ChangeShapes Go.WideShapes Go.ChangeAt Go.RowKit Go.ChangeMaps
set_option maxRecDepth 100000
theorem own:ownKnob Tryz.prog.godebug=none:=by kernel_rfl
theorem q48:eventKnown.qq7.quw=true:=by kernel_rfl
theorem zc8:E2.zm Tryz.prog eventKnown.qq7.f eventKnown.qq7.q6n:=E2.q73 Tryz.checked.mixed eventKnown.tables eventKnown.zqm (by kernel_rfl) eventKnown.zg2
noncomputable def sp (f:Nat):Option (List E2.V->E2.Heap->Option (E2.CR×E2.Heap)):=if f=12 then some eventKnown.qq7.q6n else if f=26 then some (E2.qq6 0 235) else none
theorem zpo:E3.zez (cfg sp):=fun f hf=>by
 show sp f=none
 unfold sp
 rw [zF,zF]
 .rintro rfl
  cases hf
 .rintro rfl
  cases hf
theorem quiet:E3.za (cfg sp):=⟨zpo,E3.zl8 (C:=cfg sp) (F:=28) (tB:=63) (tS:=61) (tQ:=129) (tI:=3) (tU:=5) rfl rfl (by kernel_rfl) fun el h=>by
 have:=E3.qeg h
 simp only [qle,zD,zP,List.not_mem_nil,or_false] at this
 rcases this with ⟨h1,h2⟩ | ⟨h1,h2⟩ | ⟨h1,h2⟩ | ⟨h1,h2⟩ | ⟨h1,h2⟩ | ⟨h1,h2⟩ | ⟨h1,h2⟩<;>first | exact h1 | cases h2⟩
theorem zs6:∀ f s,sp f=some s->E2.zm Tryz.prog f s:=by
 intro f s h
 unfold sp at h
 split at h
 .rename_i hf
  cases h
  subst hf
  exact zc8
 .split at h
  .rename_i hf
   cases h
   subst hf
   exact zo5
  .cases h
theorem zc7 (H:E2.Heap) (hg:H.qy=(cfg sp).ng) (ho:∀ gn o,(cfg sp).gobj gn=some o->H.get gn=some o/\gn<H.next):E2.qch (cfg sp).E (.func 12) [] H fun v H'=>v=.bool true/\H'=H:=
 E2.qum (s:=eventKnown.qq7.q6n) rfl (E2.zmk q48 hg fun x hx=>ho x.1 x.2 (E3.qng (by kernel_rfl) hx)) ⟨rfl,rfl⟩
theorem zle:E3.qau XK szK (cfg sp) 12 [] zc9:=E3.zgd ku (v:=.bool true) .sb rfl zc7 fun H M=>.sb .rfl .rfl fun h0=>absurd rfl h0
theorem zlf:E3.qbk XK szK (cfg sp) 12 zjz:=by
 intro ns pre r h hp
 unfold zjz at h
 dsimp only at h
 split at h
 .cases h
  exact ⟨_,rfl,zle,E3.zo rfl⟩
 .cases h
theorem zgw (H:E2.Heap) (hg:H.qy=(cfg sp).ng) (ho:∀ gn o,(cfg sp).gobj gn=some o->H.get gn=some o/\gn<H.next) {n:Int} (h0:0<=n/\n<=9223372036854775807):E2.qch (cfg sp).E (.func 26) [.int .i64 n] H fun v H'=>v=.str (zb n)/\H'=H:=by
 have h1:=ho 0 (E2.zq8 235) rfl
 have hg':H.qy=9:=hg
 refine E2.qum (s:=E2.qq6 0 235) rfl ?_ ⟨rfl,rfl⟩
 unfold E2.qq6
 simp only
 rw [zT ⟨h1.1,by omega,h1.2,by omega,by omega⟩]
 rfl
theorem zo4 {n:Int} (h0:0<=n/\n<=9223372036854775807):E3.qau XK szK (cfg sp) 26 [.int .i64 none n] (q3g n):=by
 intro H M vs S ra
 obtain ⟨v,vs',rfl,r1,r2⟩:=ra.zv
 have:=r2.kg;subst this
 cases r1
 refine (zgw H S.ro.2.1 S.ro.2.2 h0).mono fun u H' hA=>?_
 obtain ⟨rfl,rfl⟩:=hA
 let w':E3.Wd:={E3.wd0 H' M (cfg sp).codec with owns:=fun _=>some 0}
 have rv':E3.Rep XK szK w' (q3g n) (.str (zb n)):=E3.Rep.plain (w:=E3.wd0 H' M (cfg sp).codec) (w':=w') (ku (sp:=sp)).plain rfl (fun _ _ _ h=>h) .str .str
 exact ⟨w',.refl H',S.wf,rfl,fun n _=>.rfl,S.Mlt,rfl,rfl,fun _=>rfl,fun i nm he=>(by cases he),fun i j nm he=>(by cases he),rv'⟩
theorem zgx:E3.qbk XK szK (cfg sp) 26 q08:=by
 intro ns pre r h hp
 unfold q08 at h
 dsimp only at h
 split at h
 .cases h
  exact ⟨_,rfl,zo4 hp,E3.zo rfl⟩
 .cases h
theorem qa6:eventKnown.qy=[(0,.row (quq.map E3.qeb) 235 0 0 0 true),(1,.row (qur.map E3.qeb) 265 0 0 0 true),(3,.row (qus.map E3.qeb) 39 0 0 0 true),(8,.row (qut.map E3.qeb) 319 0 0 0 true)]:=by kernel_rfl
theorem laid {W:World} (hL:laidMetH Tryz.prog Rows.eventSoundsRow.laid W) (hsh:W.ShapedOpen Tryz.prog) (gn:Nat) (o:E2.O) (h:(cfg sp).gobj gn=some o):(E3.qia W 9).get gn=some o/\gn<(E3.qia W 9).next:=by
 have hL':laidMet Tryz.prog Rows.eventSoundsRow.laid W:=by
  unfold laidMetH at hL
  rw [zdt] at hL
  exact hL
 have hm:=E3.qeg (show E3.look eventKnown.qy gn=some o from h)
 have hsz:=zay hsh
 rw [qa6] at hm
 simp only [zD,zP,List.not_mem_nil,or_false] at hm
 rcases hm with ⟨rfl,rfl⟩ | ⟨rfl,rfl⟩ | ⟨rfl,rfl⟩ | ⟨rfl,rfl⟩
 .exact ⟨E3.qjp (zqo hL' hsh),show 0<W.heap.size by omega⟩
 .exact ⟨E3.qjp (zqp hL' hsh),show 1<W.heap.size by omega⟩
 .exact ⟨E3.qjp (zqq hL' hsh),show 3<W.heap.size by omega⟩
 .exact ⟨E3.qjp (zqr hL' hsh),show 8<W.heap.size by omega⟩
def good:∀ c,KT c->Prop
 | 1=>fun n=>E3.I64 n
 | _=>fun _=>True
def cdA:Nat->Option Nat:=E3.look [(3,1)]
theorem zmw:E3.ArgOk good XK szK Tryz.prog cdA 8:=by
 refine ⟨fun e c h=>?_⟩
 have:=E3.qeg h
 simp only [zD,zP,List.not_mem_nil,or_false] at this
 obtain ⟨rfl,rfl⟩:=this
 refine ⟨[.int .i64],by kernel_rfl,rfl,rfl,by kernel_rfl,by decide,fun ps h=>?_⟩
 obtain ⟨p,qs,rfl,⟨n,rfl,h1,h2⟩,rfl⟩:=h
 exact ⟨True,n,rfl,trivial,h1,h2⟩
theorem body:∃ c,Tryz.f4.body=some c:=⟨_,rfl⟩
theorem contract (H:Type) (enc:TypeId×Value->H) (W:World) (base:Nat) (args:Array Value) (ds gs:List (DataW H)) (before:List MemPlace)
  (hval:∀ (j:Nat) t v,Tryz.f4.params[j]? = some t->args[j]? = some v->Value.okWide Tryz.prog W .any base t v)
  (hW:DataW.Whole enc Tryz.prog Tryz.f4.params.toList Rows.eventSoundsSpec.vars false W args.toList ds gs before) (hL:laidMetH Tryz.prog Rows.eventSoundsRow.laid W) (hsh:W.ShapedOpen Tryz.prog) :
  Calls Tryz.prog 4 args W fun e W'=>∃ v,e=.returned v/\Rows.eventSoundsSpec.post enc Tryz.prog Tryz.f4 false true false false W args v W':=by
 have hW':=hW
 obtain ⟨p,q,hA0,_⟩:=hW
 have hA:DataW.TrodAll enc Tryz.prog W 0 (fun _=>true) true Tryz.f4.params.toList args.toList ds p:=hA0
 rw [Tryz.params4] at hA hval
 obtain ⟨v1,v2,d1,d2,p1,p2,ha,rfl,rfl,h1,h2⟩:=trodAll_two hA
 subst ha
 obtain ⟨cd,hcd⟩:=body
 have hM:∀ n:Nat,¬ (fun _:Nat=>False) n:=fun n h=>h
 have hsim:=E3.zs5 (W:=W) (ng:=9) (zay hsh)
 have hlt:∀ nm g x,E3.qcr W nm g=some x->nm<(E3.qia W 9).ro:=by
  intro nm g x h
  obtain ⟨_,arr,e,fz,hb,_⟩:=E3.qa3 h
  exact (Array.getElem?_eq_some_iff.1 hb).1
 obtain ⟨pv,u,hleaf,hrep,hrelu⟩:=E3.q9h (C:=cfg sp) (ng:=9) (M:=fun _=>False) qal zmw hM (t:=34) (leaf:=.list 1) (by kernel_rfl) (by kernel_rfl) (hval 0 34 v1 rfl rfl) h1
 obtain ⟨l,rfl,hll,hgl⟩:=hleaf
 obtain ⟨qv,u2,hleaf2,hrep2,hrelu2⟩:=E3.q9h (C:=cfg sp) (ng:=9) (M:=fun _=>False) qal zmw hM (t:=3) (leaf:=.int .i64) (by kernel_rfl) (by kernel_rfl) (hval 1 3 v2 rfl rfl) h2
 obtain ⟨x,rfl,hx1,hx2⟩:=hleaf2
 have hrel:E2.qm (E3.qcr W) W [u,u2] (#[v1,v2]:Array Value).toList:=E2.qm.cons hrelu (E2.qm.cons hrelu2 E2.qm.nil)
 have hstart:E3.Start XK szK (cfg sp) (E3.qia W 9) (fun _=>False):=by
  refine ⟨fun n hn=>?_,⟨zN _,rfl,laid hL hsh⟩,fun n h=>h.elim,fun gn ps h=>by cases h⟩
  cases hg:(E3.qia W 9).get n with
  | none=>rfl
  | some o=>
   obtain ⟨arr,e,fz,hb,_⟩:=E3.qn4 hg
   exact absurd (Array.getElem?_eq_some_iff.1 hb).1 (Nat.not_lt.2 hn)
 have hrun:=q15 quiet zlf zgx l x ⟨Int.le_trans (Int.ofNat_le.2 hll) (by decide),hx1,hx2,hgl⟩ _ _ [u,u2] hstart (.cons hrep (.cons hrep2 .nil))
 refine (E2.q3y Tryz.checked.mixed eventKnown.tables zs6 Tryz.func4 (by kernel_rfl) hcd hsim hrel hrun).mono fun e W' ⟨v,H',x,G',hR,he,hx,st⟩=>?_
 obtain ⟨w',hR⟩:=hR
 have hr:=hR.rep
 obtain rfl:v=.bool true:=by cases hr;rfl
 simp only [E2.Rel] at hx
 subst hx
 subst he
 have hsame:∀ b,b<W.heap.size->W'.heap[b]? = W.heap[b]?:=E3.zcq st.ext
 refine ⟨_,rfl,E3.qx8 (t:=4) hW' rfl rfl Tryz.underlying4 rfl ⟨p1++p2,?_⟩ (fun may=>st.ext.keptBut hlt may)⟩
 rw [Tryz.params4]
 exact trodAll_mk2 (E3.qxf (by kernel_rfl) (by kernel_rfl) (Nat.le_of_ble_eq_true (by kernel_rfl)) h1 hsame _ fun b hb=>decide_eq_true hb) (E3.qxf (by kernel_rfl) (by kernel_rfl) (Nat.le_of_ble_eq_true (by kernel_rfl)) h2 hsame _ fun b hb=>decide_eq_true hb)
theorem lifted (os:Os) (started:os.Started) (H:Type) (enc:TypeId×Value->H) (F:Stop.Interp) :
  ReturnsInHanded {} Tryz.checked os 4 .any ((OpenSpec.ofChange Rows.eventSoundsSpec).preRow enc Tryz.prog Tryz.f4 Rows.eventSoundsRow.domain false Rows.eventSoundsRow.laid) (((OpenSpec.ofChange Rows.eventSoundsSpec).at F).post enc Tryz.prog Tryz.f4 false true false false):=by
 obtain ⟨places,hx⟩:=reads os enc
 refine returnsInHanded_of_row (C:=Tryz.checked) (s:=OpenSpec.ofChange Rows.eventSoundsSpec) own started (by kernel_rfl) Tryz.func4
  (witness_row_at (enc:=enc) (C:=Tryz.checked) false (qq8 os) wit rfl (by kernel_rfl) (by kernel_rfl) (by kernel_rfl)
    (OpenSpec.preRow_of_cond 8 hx (by kernel_rfl) (fun k hk=>by cases hk) (by kernel_rfl) (zg3 os))) ?_
 intro W base args ds gs before hval hW _ _ _ hL hsh _
 exact contract H enc W base args ds gs before hval hW hL hsh
end Go.Proofs.YtpbliaccnbgapaaGreatDoor.eventSounds
