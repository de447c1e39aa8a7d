import Derived.Test.YtcnoipglgpkpeaaGreatDoorFns
import Derived.Test.YtcnoipglgpkpeaaGreatDoorM6
import Derived.Test.YtcnoipglgpkpeaaGreatDoorMatchesVars
import Derived.Test.YtcnoipglgpkpeaaGreatDoorMatchesWit
import Derived.Test.YtcnoipglgpkpeaaGreatDoorCanonAwakeRun
import Derived.WalkKit
import Derived.ProofKit
import Derived.OpenShut
import Derived.ChangeMaps5
import Derived.Deep.DeepHandedRow
namespace Go.Proofs.YtcnoipglgpkpeaaGreatDoor.canonMatches
open Go.ChangeShapes Go.WideShapes Go.ChangeAt Go.RowKit Go.ChangeMaps
set_option maxRecDepth 100000
theorem own:ownKnob Tryz.prog.godebug=none:=by kernel_rfl
theorem q19:canonAwake.qp3.qtd=true:=by kernel_rfl
theorem q9n:E2.zn Tryz.prog canonAwake.qp3.f canonAwake.qp3.q3g:=E2.q4u Tryz.checked.mixed canonAwake.tables canonAwake.zk8 (by kernel_rfl) canonAwake.zcn
def sp (f:Nat):Option (List E2.V->E2.Heap->Option (E2.CR×E2.Heap)):=if f=10 then some canonAwake.qp3.q3g else none
theorem zj8:E3.zbe (cfg sp):=fun f hf=>by
 show sp f=none
 unfold sp
 rw [zF]
 rintro rfl
 cases hf
theorem quiet:E3.qw (cfg sp):=⟨zj8,fun f h=>by cases h⟩
theorem zng:∀ f s,sp f=some s->E2.zn Tryz.prog f s:=by
 intro f s h
 unfold sp at h
 split at h
 .rename_i hf
  cases h
  subst hf
  exact q9n
 .cases h
theorem q9m (H:E2.Heap) (hg:H.qt=(cfg sp).ng) (ho:∀ gn o,(cfg sp).gobj gn=some o->H.get gn=some o/\gn<H.next):E2.qcc (cfg sp).E (.func 10) [] H fun v H'=>v=.bool true/\H'=H:=
 E2.q4b (s:=canonAwake.qp3.q3g) rfl (E2.zhm q19 hg fun x hx=>ho x.1 x.2 (E3.qmo (by kernel_rfl) hx)) ⟨rfl,rfl⟩
theorem zgg:E3.qam XK szK (cfg sp) 10 [] q9o:=E3.zb7 kh (v:=.bool true) .sb rfl q9m fun H M=>.sb .rfl .rfl fun h0=>absurd rfl h0
theorem zgh:E3.qbv XK szK (cfg sp) 10 zfa:=by
 intro ns pre r h hp
 unfold zfa at h
 dsimp only at h
 split at h
 .cases h
  exact ⟨_,rfl,zgg,E3.zl rfl⟩
 .cases h
theorem qap:canonAwake.qt=[(1,.row (qs7.map E3.qds) 156 0 0 0 true),(2,.row (qs8.map E3.qds) 26 0 0 0 true),(3,.row (qs9.map E3.qds) 289 0 0 0 true)]:=by kernel_rfl
theorem laid {W:World} (hL:laidMetH Tryz.prog Rows.canonMatchesRow.laid W) (hsh:W.ShapedOpen Tryz.prog) (gn:Nat) (o:E2.O) (h:(cfg sp).gobj gn=some o):(E3.qen W 4).get gn=some o/\gn<(E3.qen W 4).next:=by
 have hL':laidMet Tryz.prog Rows.canonMatchesRow.laid W:=by
  unfold laidMetH at hL
  rw [qxs] at hL
  exact hL
 have hm:=E3.qe4 (show E3.look canonAwake.qt gn=some o from h)
 have hsz:=zd2 hsh
 rw [qap] at hm
 simp only [zD,zP,List.not_mem_nil,or_false] at hm
 rcases hm with ⟨rfl,rfl⟩ | ⟨rfl,rfl⟩ | ⟨rfl,rfl⟩
 .exact ⟨E3.qjc (zlb hL' hsh),show 1<W.heap.size by omega⟩
 .exact ⟨E3.qjc (zlc hL' hsh),show 2<W.heap.size by omega⟩
 .exact ⟨E3.qjc (zld hL' hsh),show 3<W.heap.size by omega⟩
def q60:List Int:=[0,2,4,5,7,9,11]
theorem qjm:q11 0=some (q60.map fun v=>E3.P.int .i64 (some v) v):=by kernel_rfl
theorem zii:qpm.map E3.qds=q60.map fun v=>E2.V.int .i64 v:=by kernel_rfl
theorem toText {W:World} (hL:laidMetH Tryz.prog Rows.canonMatchesRow.laid W):laidMet Tryz.prog Rows.canonMatchesRow.laid W:=by
 unfold laidMetH at hL
 rw [qxs] at hL
 exact hL
theorem constants {W:World} (hL:laidMetH Tryz.prog Rows.canonMatchesRow.laid W) (hsh:W.ShapedOpen Tryz.prog) (gn:Nat) (ps:List (E3.PV KT)) (h:(cfg sp).qt gn=some ps) :
  gn<(E3.qen W 4).qt/\∃ vs e fl fz ex,(E3.qen W 4).get gn=some (.row vs e 0 fl fz ex)/\gn<(E3.qen W 4).next/\E3.Rep XK szK (E3.wd0 (E3.qen W 4) (fun _=>False) (cfg sp).codec) (.eptr ps 0) (.ptr gn 0 0 vs.length):=by
 have h':q11 gn=some ps:=h
 have hg:gn=0:=by
  rcases gn with _ | gn
  .rfl
  .cases h'
 subst hg
 rw [qjm] at h'
 cases h'
 have hrow:(E3.qen W 4).get 0=some (.row (qpm.map E3.qds) 152 0 0 0 true):=E3.qjc (zla (toText hL) hsh)
 rw [zii] at hrow
 refine ⟨show 0<4 by decide,_,_,_,_,_,hrow,show 0<W.heap.size by have:=zd2 hsh;omega,?_⟩
 refine E3.Rep.eptr (d:=0) (off:=0) hrow (zN 0) (fun h=>h) (by rw [List.length_map,List.length_map];exact Nat.le_of_eq (Nat.zero_add _)) (zN _) (fun j p hp=>?_)
 rw [List.getElem?_map] at hp
 obtain ⟨b,hb,rfl⟩:=zM.1 hp
 rw [Nat.zero_add,List.getD_eq_getElem?_getD,List.getElem?_map,hb]
 exact .int fun m hm=>by cases hm;rfl
def good:∀ c,KT c->Prop
 | 1=>fun n=>E3.I64 n
 | _=>fun _=>True
def cdA:Nat->Option Nat:=E3.look [(3,1)]
theorem zhz:E3.ArgOk good XK szK Tryz.prog cdA 8:=by
 refine ⟨fun e c h=>?_⟩
 have:=E3.qe4 h
 simp only [zD,zP,List.not_mem_nil,or_false] at this
 obtain ⟨rfl,rfl⟩:=this
 refine ⟨[.int .i64],by kernel_rfl,rfl,rfl,by kernel_rfl,by decide,fun ps h=>?_⟩
 obtain ⟨p,qs,rfl,⟨n,rfl,h1,h2⟩,rfl⟩:=h
 exact ⟨True,n,rfl,trivial,h1,h2⟩
theorem body:∃ c,Tryz.f5.body=some c:=⟨_,rfl⟩
theorem contract (H:Type) (enc:TypeId×Value->H) (W:World) (base:Nat) (args:Array Value) (ds gs:List (DataW H)) (before:List MemPlace)
  (hval:∀ (j:Nat) t v,Tryz.f5.params[j]? = some t->args[j]? = some v->Value.okWide Tryz.prog W .any base t v)
  (hW:DataW.Whole enc Tryz.prog Tryz.f5.params.toList Rows.canonMatchesSpec.vars false W args.toList ds gs before) (hL:laidMetH Tryz.prog Rows.canonMatchesRow.laid W) (hsh:W.ShapedOpen Tryz.prog) :
  Calls Tryz.prog 5 args W fun e W'=>∃ v,e=.returned v/\Rows.canonMatchesSpec.post enc Tryz.prog Tryz.f5 false true false false W args v W':=by
 have hW':=hW
 obtain ⟨p,q,hA0,_⟩:=hW
 have hA:DataW.TrodAll enc Tryz.prog W 0 (fun _=>true) true Tryz.f5.params.toList args.toList ds p:=hA0
 rw [Tryz.params5] at hA hval
 obtain ⟨v1,v2,d1,d2,p1,p2,ha,rfl,rfl,h1,h2⟩:=trodAll_two hA
 subst ha
 obtain ⟨cd,hcd⟩:=body
 have hM:∀ n:Nat,¬ (fun _:Nat=>False) n:=fun n h=>h
 have hsim:=E3.znf (W:=W) (ng:=4) (zd2 hsh)
 have hlt:∀ nm g x,E3.qb7 W nm g=some x->nm<(E3.qen W 4).ro:=by
  intro nm g x h
  obtain ⟨_,arr,e,fz,hb,_⟩:=E3.qae h
  exact (Array.getElem?_eq_some_iff.1 hb).1
 obtain ⟨q1,u1,hl1,hrep1,hrelu1⟩:=E3.q57 (C:=cfg sp) (ng:=4) (M:=fun _=>False) jo zhz hM (t:=22) (leaf:=.list 1) (by kernel_rfl) (by kernel_rfl) (hval 0 22 v1 rfl rfl) h1
 obtain ⟨l,rfl,hll,hgl⟩:=hl1
 obtain ⟨q2,u2,hl2,hrep2,hrelu2⟩:=E3.q57 (C:=cfg sp) (ng:=4) (M:=fun _=>False) jo zhz hM (t:=3) (leaf:=.int .i64) (by kernel_rfl) (by kernel_rfl) (hval 1 3 v2 rfl rfl) h2
 obtain ⟨x,rfl,hx1,hx2⟩:=hl2
 have hrel:E2.qk (E3.qb7 W) W [u1,u2] (#[v1,v2]:Array Value).toList:=E2.qk.cons hrelu1 (E2.qk.cons hrelu2 E2.qk.nil)
 have hstart:E3.Start XK szK (cfg sp) (E3.qen W 4) (fun _=>False):=by
  refine ⟨fun n hn=>?_,⟨zN _,rfl,laid hL hsh⟩,fun n h=>h.elim,constants hL hsh⟩
  cases hg:(E3.qen W 4).get n with
  | none=>rfl
  | some o=>
   obtain ⟨arr,e,fz,hb,_⟩:=E3.qnb hg
   exact absurd (Array.getElem?_eq_some_iff.1 hb).1 (Nat.not_lt.2 hn)
 have hrun:=qvp quiet zgh l x ⟨Int.le_trans (Int.ofNat_le.2 hll) (by decide),hgl,hx1,hx2⟩ _ _ [u1,u2] hstart (.cons hrep1 (.cons hrep2 .nil))
 refine (E2.q04 Tryz.checked.mixed canonAwake.tables zng Tryz.func5 (by kernel_rfl) hcd hsim hrel hrun).mono fun e W' ⟨v,H',x,G',hR,he,hx,st⟩=>?_
 obtain ⟨w',hR⟩:=hR
 have hr:=hR.rep
 obtain rfl:v=.bool true:=by cases hr;rfl
 simp only [E2.Rel] at hx
 subst hx
 subst he
 have hsame:∀ b,b<W.heap.size->W'.heap[b]? = W.heap[b]?:=E3.q87 st.ext
 refine ⟨_,rfl,E3.qvz (t:=4) hW' rfl rfl Tryz.underlying4 rfl ⟨p1++p2,?_⟩ (fun may=>st.ext.keptBut hlt may)⟩
 rw [Tryz.params5]
 exact trodAll_mk2 (E3.qvc (by kernel_rfl) (by kernel_rfl) (Nat.le_of_ble_eq_true (by kernel_rfl)) h1 hsame _ fun b hb=>decide_eq_true hb) (E3.qvc (by kernel_rfl) (by kernel_rfl) (Nat.le_of_ble_eq_true (by kernel_rfl)) h2 hsame _ fun b hb=>decide_eq_true hb)
theorem lifted (os:Os) (started:os.Started) (H:Type) (enc:TypeId×Value->H) (F:Stop.Interp) :
  ReturnsInHanded {} Tryz.checked os 5 .any ((OpenSpec.ofChange Rows.canonMatchesSpec).preRow enc Tryz.prog Tryz.f5 Rows.canonMatchesRow.domain false Rows.canonMatchesRow.laid) (((OpenSpec.ofChange Rows.canonMatchesSpec).at F).post enc Tryz.prog Tryz.f5 false true false false):=by
 obtain ⟨places,hx⟩:=reads os enc
 refine returnsInHanded_of_row (C:=Tryz.checked) (s:=OpenSpec.ofChange Rows.canonMatchesSpec) own started (by kernel_rfl) Tryz.func5
  (witness_row_at (enc:=enc) (C:=Tryz.checked) false (qp4 os) wit rfl (by kernel_rfl) (by kernel_rfl) (by kernel_rfl)
    (OpenSpec.preRow_of_cond 8 hx (by kernel_rfl) (fun k hk=>by cases hk) (by kernel_rfl) (zco os))) ?_
 intro W base args ds gs before hval hW _ _ _ hL hsh _
 exact contract H enc W base args ds gs before hval hW hL hsh
end Go.Proofs.YtcnoipglgpkpeaaGreatDoor.canonMatches
