import Derived.Test.YtcnoipglgpkpeaaGreatDoorFns
import Derived.Test.YtcnoipglgpkpeaaGreatDoorM6
import Derived.Test.YtcnoipglgpkpeaaGreatDoorMakesVars
import Derived.Test.YtcnoipglgpkpeaaGreatDoorMakesWit
import Derived.Test.YtcnoipglgpkpeaaGreatDoorCanonAwakeRun
import Derived.WalkKit
import Derived.ProofKit
import Derived.OpenShut
import Derived.ChangeMaps5
import Derived.Deep.DeepHandedRow
namespace Go.Proofs.YtcnoipglgpkpeaaGreatDoor.canonMakes
open Go.ChangeShapes Go.WideShapes Go.ChangeAt Go.RowKit Go.ChangeMaps
set_option maxRecDepth 100000
theorem own:ownKnob Tryz.prog.godebug=none:=by kernel_rfl
theorem q5d:canonAwake.qq2.qu1=true:=by kernel_rfl
theorem zec:E2.zu Tryz.prog canonAwake.qq2.f canonAwake.qq2.q6m:=E2.q8m Tryz.checked.mixed canonAwake.tables canonAwake.zq0 (by kernel_rfl) canonAwake.zhp
def sp (f:Nat):Option (List E2.V->E2.Heap->Option (E2.CR×E2.Heap)):=if f=10 then some canonAwake.qq2.q6m else none
theorem zp6:E3.zge (cfg sp):=fun f hf=>by
 show sp f=none
 unfold sp
 rw [zF]
 rintro rfl
 cases hf
theorem quiet:E3.qf (cfg sp):=⟨zp6,fun f h=>by cases h⟩
theorem zsy:∀ f s,sp f=some s->E2.zu Tryz.prog f s:=by
 intro f s h
 unfold sp at h
 split at h
 .rename_i hf
  cases h
  subst hf
  exact zec
 .cases h
theorem zeb (H:E2.Heap) (hg:H.zb=(cfg sp).ng) (ho:∀ gn o,(cfg sp).gobj gn=some o->H.get gn=some o/\gn<H.next):E2.qcr (cfg sp).E (.func 10) [] H fun v H'=>v=.bool true/\H'=H:=
 E2.q72 (s:=canonAwake.qq2.q6m) rfl (E2.zm4 q5d hg fun x hx=>ho x.1 x.2 (E3.qne (by kernel_rfl) hx)) ⟨rfl,rfl⟩
theorem zl3:E3.kx XK szK (cfg sp) 10 [] zed:=E3.zg9 zk (v:=.bool true) .sb rfl zeb fun H M=>.sb .rfl .rfl fun h0=>absurd rfl h0
theorem zl4:E3.jc XK szK (cfg sp) 10 zkg:=by
 intro ns pre r h hp
 unfold zkg at h
 dsimp only at h
 split at h
 .cases h
  exact ⟨_,rfl,zl3,E3.qx rfl⟩
 .cases h
theorem qa0:canonAwake.zb=[(1,.row (qur.map E3.qd6) 156 0 0 0 true),(2,.row (qus.map E3.qd6) 26 0 0 0 true),(3,.row (qut.map E3.qd6) 289 0 0 0 true)]:=by kernel_rfl
theorem laid {W:World} (hL:laidMetH Tryz.prog Rows.canonMakesRow.laid W) (hsh:W.ShapedOpen Tryz.prog) (gn:Nat) (o:E2.O) (h:(cfg sp).gobj gn=some o):(E3.qd5 W 4).get gn=some o/\gn<(E3.qd5 W 4).next:=by
 have hL':laidMet Tryz.prog Rows.canonMakesRow.laid W:=by
  unfold laidMetH at hL
  rw [qz0] at hL
  exact hL
 have hm:=E3.qfh (show E3.look canonAwake.zb gn=some o from h)
 have hsz:=zi2 hsh
 rw [qa0] at hm
 simp only [zD,zP,List.not_mem_nil,or_false] at hm
 rcases hm with ⟨rfl,rfl⟩ | ⟨rfl,rfl⟩ | ⟨rfl,rfl⟩
 .exact ⟨E3.qjw (zq3 hL' hsh),show 1<W.heap.size by omega⟩
 .exact ⟨E3.qjw (zq4 hL' hsh),show 2<W.heap.size by omega⟩
 .exact ⟨E3.qjw (zq5 hL' hsh),show 3<W.heap.size by omega⟩
def zaw:List Int:=[0,2,4,5,7,9,11]
theorem qj7:q46 0=some (zaw.map fun v=>E3.P.int .i64 (some v) v):=by kernel_rfl
theorem zn2:qqm.map E3.qd6=zaw.map fun v=>E2.V.int .i64 v:=by kernel_rfl
theorem toText {W:World} (hL:laidMetH Tryz.prog Rows.canonMakesRow.laid W):laidMet Tryz.prog Rows.canonMakesRow.laid W:=by
 unfold laidMetH at hL
 rw [qz0] at hL
 exact hL
theorem constants {W:World} (hL:laidMetH Tryz.prog Rows.canonMakesRow.laid W) (hsh:W.ShapedOpen Tryz.prog) (gn:Nat) (ps:List (E3.PV KT)) (h:(cfg sp).zb gn=some ps) :
  gn<(E3.qd5 W 4).zb/\∃ vs e fl fz ex,(E3.qd5 W 4).get gn=some (.row vs e 0 fl fz ex)/\gn<(E3.qd5 W 4).next/\E3.Rep XK szK (E3.wd0 (E3.qd5 W 4) (fun _=>False) (cfg sp).codec) (.eptr ps 0) (.ptr gn 0 0 vs.length):=by
 have h':q46 gn=some ps:=h
 have hg:gn=0:=by
  rcases gn with _ | gn
  .rfl
  .cases h'
 subst hg
 rw [qj7] at h'
 cases h'
 have hrow:(E3.qd5 W 4).get 0=some (.row (qqm.map E3.qd6) 152 0 0 0 true):=E3.qjw (zq2 (toText hL) hsh)
 rw [zn2] at hrow
 refine ⟨show 0<4 by decide,_,_,_,_,_,hrow,show 0<W.heap.size by have:=zi2 hsh;omega,?_⟩
 refine E3.Rep.eptr (d:=0) (off:=0) hrow (zN 0) (fun h=>h) (by rw [List.length_map,List.length_map];exact Nat.le_of_eq (Nat.zero_add _)) (zN _) (fun j p hp=>?_)
 rw [List.getElem?_map] at hp
 obtain ⟨b,hb,rfl⟩:=zM.1 hp
 rw [Nat.zero_add,List.getD_eq_getElem?_getD,List.getElem?_map,hb]
 exact .int fun m hm=>by cases hm;rfl
def good:∀ c,KT c->Prop:=fun _ _=>True
def cdA:Nat->Option Nat:=E3.look [(38,11)]
theorem zgn:E3.ArgOk good XK szK Tryz.prog cdA 8:=by
 refine ⟨fun e c h=>?_⟩
 have:=E3.qfh h
 simp only [zD,zP,List.not_mem_nil,or_false] at this
 obtain ⟨rfl,rfl⟩:=this
 refine ⟨[.int .i64,.int .i64,.int .i64,.int .i64,.int .i64,.int .i64,.int .i64,.bool,.int .i64,.int .i64],by kernel_rfl,rfl,rfl,by kernel_rfl,by decide,fun ps h=>?_⟩
 obtain ⟨p0,q0,rfl,⟨n0,rfl,_⟩,p1,q1,rfl,⟨n1,rfl,_⟩,p2,q2,rfl,⟨n2,rfl,_⟩,p3,q3,rfl,⟨n3,rfl,_⟩,p4,q4,rfl,⟨n4,rfl,_⟩,p5,q5,rfl,⟨n5,rfl,_⟩,p6,q6,rfl,⟨n6,rfl,_⟩,p7,q7,rfl,⟨n7,rfl⟩,p8,q8,rfl,⟨n8,rfl,_⟩,p9,q9,rfl,⟨n9,rfl,_⟩,rfl⟩:=h
 exact ⟨True,⟨n0,n1,n2,n3,n4,n5,n6,n7,n8,n9⟩,rfl,trivial,trivial⟩
theorem body:∃ c,Tryz.f4.body=some c:=⟨_,rfl⟩
theorem contract (H:Type) (enc:TypeId×Value->H) (W:World) (base:Nat) (args:Array Value) (ds gs:List (DataW H)) (before:List MemPlace)
  (hval:∀ (j:Nat) t v,Tryz.f4.params[j]? = some t->args[j]? = some v->Value.okWide Tryz.prog W .any base t v)
  (hW:DataW.Whole enc Tryz.prog Tryz.f4.params.toList Rows.canonMakesSpec.vars false W args.toList ds gs before) (hL:laidMetH Tryz.prog Rows.canonMakesRow.laid W) (hsh:W.ShapedOpen Tryz.prog) :
  Calls Tryz.prog 4 args W fun e W'=>∃ v,e=.returned v/\Rows.canonMakesSpec.post enc Tryz.prog Tryz.f4 false true false false W args v W':=by
 have hW':=hW
 obtain ⟨p,q,hA0,_⟩:=hW
 have hA:DataW.TrodAll enc Tryz.prog W 0 (fun _=>true) true Tryz.f4.params.toList args.toList ds p:=hA0
 rw [Tryz.params4] at hA hval
 obtain ⟨v1,v2,v3,d1,d2,d3,p1,p2,p3,ha,rfl,rfl,h1,h2,h3⟩:=trodAll_three hA
 subst ha
 obtain ⟨cd,hcd⟩:=body
 have hM:∀ n:Nat,¬ (fun _:Nat=>False) n:=fun n h=>h
 have hsim:=E3.zsx (W:=W) (ng:=4) (zi2 hsh)
 have hlt:∀ nm g x,E3.qbz W nm g=some x->nm<(E3.qd5 W 4).ro:=by
  intro nm g x h
  obtain ⟨_,arr,e,fz,hb,_⟩:=E3.qaq h
  exact (Array.getElem?_eq_some_iff.1 hb).1
 obtain ⟨q1,u1,hl1,hrep1,hrelu1⟩:=E3.q9y (C:=cfg sp) (ng:=4) (M:=fun _=>False) zw zgn hM (t:=23) (leaf:=.list 11) (by kernel_rfl) (by kernel_rfl) (hval 0 23 v1 rfl rfl) h1
 obtain ⟨l,rfl,hll,_⟩:=hl1
 obtain ⟨q2,u2,hl2,hrep2,hrelu2⟩:=E3.q9y (C:=cfg sp) (ng:=4) (M:=fun _=>False) zw zgn hM (t:=23) (leaf:=.list 11) (by kernel_rfl) (by kernel_rfl) (hval 1 23 v2 rfl rfl) h2
 obtain ⟨m,rfl,hlm,_⟩:=hl2
 obtain ⟨q3,u3,hl3,hrep3,hrelu3⟩:=E3.q7w (C:=cfg sp) (ng:=4) (M:=fun _=>False) zw zgn hM (t:=30) (ls:=[.int .i64,.int .i64,.int .i64,.bool,.bool,.int .i64,.int .i64,.int .i64,.int .i64,.int .i64,.int .i64]) Tryz.underlying30 (by kernel_rfl) (hval 2 30 v3 rfl rfl) h3
 obtain ⟨_,_,rfl,⟨n0,rfl,_⟩,_,_,rfl,⟨n1,rfl,_⟩,_,_,rfl,⟨n2,rfl,g2⟩,_,_,rfl,⟨n3,rfl⟩,_,_,rfl,⟨n4,rfl⟩,_,_,rfl,⟨n5,rfl,_⟩,_,_,rfl,⟨n6,rfl,_⟩,_,_,rfl,⟨n7,rfl,_⟩,_,_,rfl,⟨n8,rfl,_⟩,_,_,rfl,⟨n9,rfl,_⟩,_,_,rfl,⟨n10,rfl,_⟩,rfl⟩:=hl3
 have hrel:E2.qn (E3.qbz W) W [u1,u2,u3] (#[v1,v2,v3]:Array Value).toList:=E2.qn.cons hrelu1 (E2.qn.cons hrelu2 (E2.qn.cons hrelu3 E2.qn.nil))
 have hstart:E3.Start XK szK (cfg sp) (E3.qd5 W 4) (fun _=>False):=by
  refine ⟨fun n hn=>?_,⟨zN _,rfl,laid hL hsh⟩,fun n h=>h.elim,constants hL hsh⟩
  cases hg:(E3.qd5 W 4).get n with
  | none=>rfl
  | some o=>
   obtain ⟨arr,e,fz,hb,_⟩:=E3.qn4 hg
   exact absurd (Array.getElem?_eq_some_iff.1 hb).1 (Nat.not_lt.2 hn)
 have hrun:=q5e quiet zl4 l m n0 n1 n2 n3 n4 n5 n6 n7 n8 n9 n10 ⟨Int.le_trans (Int.ofNat_le.2 hll) (by decide),Int.le_trans (Int.ofNat_le.2 hlm) (by decide),g2⟩ _ _ [u1,u2,u3] hstart (.cons hrep1 (.cons hrep2 (.cons hrep3 .nil)))
 refine (E2.q35 Tryz.checked.mixed canonAwake.tables zsy Tryz.func4 (by kernel_rfl) hcd hsim hrel hrun).mono fun e W' ⟨v,H',x,G',hR,he,hx,st⟩=>?_
 obtain ⟨w',hR⟩:=hR
 have hr:=hR.rep
 obtain rfl:v=.bool true:=by cases hr;rfl
 simp only [E2.Rel] at hx
 subst hx
 subst he
 have hsame:∀ b,b<W.heap.size->W'.heap[b]? = W.heap[b]?:=E3.zdu st.ext
 refine ⟨_,rfl,E3.qxx (t:=4) hW' rfl rfl Tryz.underlying4 rfl ⟨p1++(p2++p3),?_⟩ (fun may=>st.ext.keptBut hlt may)⟩
 rw [Tryz.params4]
 exact trodAll_mk3 (E3.qoi (by kernel_rfl) (by kernel_rfl) (Nat.le_of_ble_eq_true (by kernel_rfl)) h1 hsame _ fun b hb=>decide_eq_true hb) (E3.qoi (by kernel_rfl) (by kernel_rfl) (Nat.le_of_ble_eq_true (by kernel_rfl)) h2 hsame _ fun b hb=>decide_eq_true hb) (E3.qoi (by kernel_rfl) (by kernel_rfl) (Nat.le_of_ble_eq_true (by kernel_rfl)) h3 hsame _ fun b hb=>decide_eq_true hb)
theorem lifted (os:Os) (started:os.Started) (H:Type) (enc:TypeId×Value->H) (F:Stop.Interp) :
  ReturnsInHanded {} Tryz.checked os 4 .any ((OpenSpec.ofChange Rows.canonMakesSpec).preRow enc Tryz.prog Tryz.f4 Rows.canonMakesRow.domain false Rows.canonMakesRow.laid) (((OpenSpec.ofChange Rows.canonMakesSpec).at F).post enc Tryz.prog Tryz.f4 false true false false):=by
 obtain ⟨places,hx⟩:=reads os enc
 refine returnsInHanded_of_row (C:=Tryz.checked) (s:=OpenSpec.ofChange Rows.canonMakesSpec) own started (by kernel_rfl) Tryz.func4
  (witness_row_at (enc:=enc) (C:=Tryz.checked) false (qq3 os) wit rfl (by kernel_rfl) (by kernel_rfl) (by kernel_rfl)
    (OpenSpec.preRow_of_cond 8 hx (by kernel_rfl) (fun k hk=>by cases hk) (by kernel_rfl) (zhq os))) ?_
 intro W base args ds gs before hval hW _ _ _ hL hsh _
 exact contract H enc W base args ds gs before hval hW hL hsh
end Go.Proofs.YtcnoipglgpkpeaaGreatDoor.canonMakes
