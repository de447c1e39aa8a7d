import Derived.Test.YtcnoipglgpkpeaaGreatDoorFns
import Derived.Test.YtcnoipglgpkpeaaGreatDoorM6
import Derived.Test.YtcnoipglgpkpeaaGreatDoorCanonVars
import Derived.Test.YtcnoipglgpkpeaaGreatDoorCanonWit
import Derived.Test.YtcnoipglgpkpeaaGreatDoorCanonAwakeRun
import Derived.WalkKit
import Derived.ProofKit
import Derived.OpenShut
import Derived.ChangeMaps5
import Derived.Deep.DeepHandedRow
namespace Go.Proofs.YtcnoipglgpkpeaaGreatDoor.canonTwice
open Go.ChangeShapes Go.WideShapes Go.ChangeAt Go.RowKit Go.ChangeMaps
set_option maxRecDepth 100000
theorem own:ownKnob Tryz.prog.godebug=none:=by kernel_rfl
theorem qzg:canonAwake.qop.qrm=true:=by kernel_rfl
theorem q5x:E2.zk Tryz.prog canonAwake.qop.f canonAwake.qop.q0o:=E2.q1z Tryz.checked.mixed canonAwake.tables canonAwake.zf5 (by kernel_rfl) canonAwake.q8w
def sp (f:Nat):Option (List E2.V->E2.Heap->Option (E2.CR×E2.Heap)):=if f=10 then some canonAwake.qop.q0o else none
theorem ze9:E3.q7m (cfg sp):=fun f hf=>by
 show sp f=none
 unfold sp
 rw [zF]
 rintro rfl
 cases hf
theorem quiet:E3.zf (cfg sp):=⟨ze9,fun f h=>by cases h⟩
theorem zh6:∀ f s,sp f=some s->E2.zk Tryz.prog f s:=by
 intro f s h
 unfold sp at h
 split at h
 .rename_i hf
  cases h
  subst hf
  exact q5x
 .cases h
theorem q5w (H:E2.Heap) (hg:H.qw=(cfg sp).ng) (ho:∀ gn o,(cfg sp).gobj gn=some o->H.get gn=some o/\gn<H.next):E2.qcc (cfg sp).E (.func 10) [] H fun v H'=>v=.bool true/\H'=H:=
 E2.q1j (s:=canonAwake.qop.q0o) rfl (E2.zcu qzg hg fun x hx=>ho x.1 x.2 (E3.qld (by kernel_rfl) hx)) ⟨rfl,rfl⟩
theorem zbu:E3.qbb XK szK (cfg sp) 10 [] q5y:=E3.q8e jd (v:=.bool true) .sb rfl q5w fun H M=>.sb .rfl .rfl fun h0=>absurd rfl h0
theorem zbv:E3.qdk XK szK (cfg sp) 10 za3:=by
 intro ns pre r h hp
 unfold za3 at h
 dsimp only at h
 split at h
 .cases h
  exact ⟨_,rfl,zbu,E3.zt rfl⟩
 .cases h
theorem j9:canonAwake.qw=[(1,.row (qrg.map E3.qdl) 156 0 0 0 true),(2,.row (qrh.map E3.qdl) 26 0 0 0 true),(3,.row (qri.map E3.qdl) 289 0 0 0 true)]:=by kernel_rfl
theorem laid {W:World} (hL:laidMetH Tryz.prog Rows.canonTwiceRow.laid W) (hsh:W.ShapedOpen Tryz.prog) (gn:Nat) (o:E2.O) (h:(cfg sp).gobj gn=some o):(E3.qgx W 4).get gn=some o/\gn<(E3.qgx W 4).next:=by
 have hL':laidMet Tryz.prog Rows.canonTwiceRow.laid W:=by
  unfold laidMetH at hL
  rw [q6g] at hL
  exact hL
 have hm:=E3.qeg (show E3.look canonAwake.qw gn=some o from h)
 have hsz:=zdi hsh
 rw [j9] at hm
 simp only [zD,zP,List.not_mem_nil,or_false] at hm
 rcases hm with ⟨rfl,rfl⟩ | ⟨rfl,rfl⟩ | ⟨rfl,rfl⟩
 .exact ⟨E3.qkp (zf7 hL' hsh),show 1<W.heap.size by omega⟩
 .exact ⟨E3.qkp (zf8 hL' hsh),show 2<W.heap.size by omega⟩
 .exact ⟨E3.qkp (zf9 hL' hsh),show 3<W.heap.size by omega⟩
def good:∀ c,KT c->Prop
 | 1=>fun n=>E3.I64 n
 | _=>fun _=>True
def cdA:Nat->Option Nat:=E3.look [(3,1)]
theorem zfp:E3.ArgOk good XK szK Tryz.prog cdA 8:=by
 refine ⟨fun e c h=>?_⟩
 have:=E3.qeg h
 simp only [zD,zP,List.not_mem_nil,or_false] at this
 obtain ⟨rfl,rfl⟩:=this
 refine ⟨[.int .i64],by kernel_rfl,rfl,rfl,by kernel_rfl,by decide,fun ps h=>?_⟩
 obtain ⟨p,qs,rfl,⟨n,rfl,h1,h2⟩,rfl⟩:=h
 exact ⟨True,n,rfl,trivial,h1,h2⟩
theorem body:∃ c,Tryz.f3.body=some c:=⟨_,rfl⟩
theorem contract (H:Type) (enc:TypeId×Value->H) (W:World) (base:Nat) (args:Array Value) (ds gs:List (DataW H)) (before:List MemPlace)
  (hval:∀ (j:Nat) t v,Tryz.f3.params[j]? = some t->args[j]? = some v->Value.okWide Tryz.prog W .any base t v)
  (hW:DataW.Whole enc Tryz.prog Tryz.f3.params.toList Rows.canonTwiceSpec.vars false W args.toList ds gs before) (hL:laidMetH Tryz.prog Rows.canonTwiceRow.laid W) (hsh:W.ShapedOpen Tryz.prog) :
  Calls Tryz.prog 3 args W fun e W'=>∃ v,e=.returned v/\Rows.canonTwiceSpec.post enc Tryz.prog Tryz.f3 false true false false W args v W':=by
 have hW':=hW
 obtain ⟨p,q,hA0,_⟩:=hW
 have hA:DataW.TrodAll enc Tryz.prog W 0 (fun _=>true) true Tryz.f3.params.toList args.toList ds p:=hA0
 rw [Tryz.params3] at hA hval
 obtain ⟨v1,d1,ha,rfl,h1⟩:=trodAll_one hA
 subst ha
 obtain ⟨cd,hcd⟩:=body
 have hM:∀ n:Nat,¬ (fun _:Nat=>False) n:=fun n h=>h
 have hsim:=E3.zh5 (W:=W) (ng:=4) (zdi hsh)
 have hlt:∀ nm g x,E3.qbt W nm g=some x->nm<(E3.qgx W 4).ro:=by
  intro nm g x h
  obtain ⟨_,arr,e,fz,hb,_⟩:=E3.jy h
  exact (Array.getElem?_eq_some_iff.1 hb).1
 obtain ⟨pv,u,hleaf,hrep,hrelu⟩:=E3.za1 (C:=cfg sp) (ng:=4) (M:=fun _=>False) qau zfp hM (t:=22) (leaf:=.list 1) (by kernel_rfl) (by kernel_rfl) (hval 0 22 v1 rfl rfl) h1
 obtain ⟨l,rfl,hll,hgl⟩:=hleaf
 have hrel:E2.qh (E3.qbt W) W [u] (#[v1]:Array Value).toList:=E2.qh.cons hrelu E2.qh.nil
 have hstart:E3.Start XK szK (cfg sp) (E3.qgx W 4) (fun _=>False):=by
  refine ⟨fun n hn=>?_,⟨zN _,rfl,laid hL hsh⟩,fun n h=>h.elim,fun gn ps h=>by cases h⟩
  cases hg:(E3.qgx W 4).get n with
  | none=>rfl
  | some o=>
   obtain ⟨arr,e,fz,hb,_⟩:=E3.ql3 hg
   exact absurd (Array.getElem?_eq_some_iff.1 hb).1 (Nat.not_lt.2 hn)
 have hrun:=qzh quiet zbv l ⟨Int.le_trans (Int.ofNat_le.2 hll) (by decide),hgl⟩ _ _ [u] hstart (.cons hrep .nil)
 refine (E2.qyg Tryz.checked.mixed canonAwake.tables zh6 Tryz.func3 (by kernel_rfl) hcd hsim hrel hrun).mono fun e W' ⟨v,H',x,G',hR,he,hx,st⟩=>?_
 obtain ⟨w',hR⟩:=hR
 have hr:=hR.rep
 obtain rfl:v=.bool true:=by cases hr;rfl
 simp only [E2.Rel] at hx
 subst hx
 subst he
 have hsame:∀ b,b<W.heap.size->W'.heap[b]? = W.heap[b]?:=E3.q5h st.ext
 refine ⟨_,rfl,E3.qtv (t:=4) hW' rfl rfl Tryz.underlying4 rfl ⟨p,?_⟩ (fun may=>st.ext.keptBut hlt may)⟩
 rw [Tryz.params3]
 exact trodAll_mk1 (E3.q2u (by kernel_rfl) (by kernel_rfl) (Nat.le_of_ble_eq_true (by kernel_rfl)) h1 hsame _ fun b hb=>decide_eq_true hb)
theorem lifted (os:Os) (started:os.Started) (H:Type) (enc:TypeId×Value->H) (F:Stop.Interp) :
  ReturnsInHanded {} Tryz.checked os 3 .any ((OpenSpec.ofChange Rows.canonTwiceSpec).preRow enc Tryz.prog Tryz.f3 Rows.canonTwiceRow.domain false Rows.canonTwiceRow.laid) (((OpenSpec.ofChange Rows.canonTwiceSpec).at F).post enc Tryz.prog Tryz.f3 false true false false):=by
 obtain ⟨places,hx⟩:=reads os enc
 refine returnsInHanded_of_row (C:=Tryz.checked) (s:=OpenSpec.ofChange Rows.canonTwiceSpec) own started (by kernel_rfl) Tryz.func3
  (witness_row_at (enc:=enc) (C:=Tryz.checked) false (qoq os) wit rfl (by kernel_rfl) (by kernel_rfl) (by kernel_rfl)
    (OpenSpec.preRow_of_cond 8 hx (by kernel_rfl) (fun k hk=>by cases hk) (by kernel_rfl) (q8x os))) ?_
 intro W base args ds gs before hval hW _ _ _ hL hsh _
 exact contract H enc W base args ds gs before hval hW hL hsh
end Go.Proofs.YtcnoipglgpkpeaaGreatDoor.canonTwice
