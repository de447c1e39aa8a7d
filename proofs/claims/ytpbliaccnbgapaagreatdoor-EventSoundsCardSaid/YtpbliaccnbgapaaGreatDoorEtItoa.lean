import Derived.Test.YtpbliaccnbgapaaGreatDoorM2
import Derived.Test.YtpbliaccnbgapaaGreatDoorRows
import Derived.Shelf.Strconv.Itoa3
namespace Go.E2
open Go
set_option maxRecDepth 100000
section
variable {F:Fence} {P:Program} {m m':Machine} {e:Ending} {f:FuncId} {args:Array Value} {w:World} {n:Nat} {R:Ending->World->Prop}
theorem qvt (hF:qdc F) (m:Machine):m.fenced P F:=fun g _=>⟨fun h=>(by rw [hF.2.2] at h;cases h),.inl (hF.1 _),fun f _=>hF.1 f,fun d h=>(by rw [hF.2.1] at h;cases h)⟩
theorem zcf (hF:qdc F) (h:Comes P m m' e):ComesIn (Machine.fenced P F) P m m' e:=by
 cases e with
 | returned v=>exact (StepsIn.of_steps h).mono fun m _=>qvt hF m
 | panicked c=>exact (StepsIn.of_steps h).mono fun m _=>qvt hF m
 | outgrown=>exact h
theorem zfm (hF:qdc F) (h:Calls P f args w R):CallsIn F n P f args w R:=⟨hF.1 f,fun cs _=>by
 obtain ⟨e,w',fr,r,s,x⟩:=h cs
 exact ⟨e,w',fr,r,zcf hF s,x⟩⟩
end
theorem Step.grown {H:Heap} {G:qi} {w:World} (hs:Sim H G w) (k:Nat) (os:Array Obj):Step H G w H G (Go.Sort.grow (w.drewN k) os):=by
 have hb:∀ b,b<w.heap.size->(Go.Sort.grow (w.drewN k) os).heap[b]? = w.heap[b]?:=fun b h=>Array.getElem?_append_left h
 have hz:w.heap.size<=(Go.Sort.grow (w.drewN k) os).heap.size:=by simp [Go.Sort.grow]
 have hs':∀ b x,w.shape? b=some x->(Go.Sort.grow (w.drewN k) os).shape? b=some x:=by
  intro b x h
  unfold World.shape? at h ⊢
  by_cases hl:b<w.heap.size
  .rw [hb b hl];exact h
  .rw [Array.getElem?_eq_none (by omega)] at h;cases h
 have hx:Ext H.ro G w G (Go.Sort.grow (w.drewN k) os):=⟨fun _ _ _ h=>h,fun b h hf=>⟨hb b h,hf⟩,hz,hs',fun nm g b sh n _ h=>hb b (hs.lt _ _ _ _ _ h).1,rfl,rfl⟩
 exact ⟨hx,⟨fun nm g b sh n h=>⟨zL (hs.lt _ _ _ _ _ h).1 hz,(hs.lt _ _ _ _ _ h).2⟩,hs.inj,fun nm o h1 h2=>(hs.obj nm o h1 h2).up hx.up (fun _ _ h=>h) fun g b sh n h=>hb b (hs.lt _ _ _ _ _ h).1,hs.ro,hs.qy,hs.globs⟩,
  zN _,rfl,rfl,fun _ _=>rfl,fun _ _ _ h _=>h,fun nm _ h=>⟨h,fun g b sh n hg=>hb b (hs.lt _ _ _ _ _ hg).1,fun _ _ h=>h⟩⟩
def zpm:List V:=Lib.pow10Tab.map fun z=>V.int .u64 z
def zq8 (t:Nat):O:=.row zpm t 0 0 0 true
open Classical in
noncomputable def qq6 (g t:Nat) (args:List V) (H:Heap):Option (CR×Heap):=
 match args with
 | [.int .i64 n]=>if H.get g=some (zq8 t)/\g<H.qy/\g<H.next/\-9223372036854775808<=n/\n<=9223372036854775807 then some (.ret (.str (Lib.itoa n)),H) else none
 | _=>none
theorem qz7 {G:qi} {w:World}:∀ {zs:List Int} {l:List Value},kh G w (zs.map fun z=>V.int .u64 z) l->l=zs.map fun z=>Value.int .u64 z
 | [],l,h=>by simpa [kh] using h
 | z::zs,l,h=>by
  simp only [List.map_cons,kh] at h
  obtain ⟨x,xs,rfl,h1,h2⟩:=h
  have hx:x=.int .u64 z:=by
   rcases h1 with h1 | h1
   .cases h1
   .simpa only [Rel] using h1
  rw [hx,qz7 h2];rfl
theorem zc2 {P:Program} {ρ:Go.Shelf.Ren} (L:Go.Proofs.LaysM.n171 P ρ) (t:Nat):zm P (ρ.f 171) (qq6 (ρ.g 17) t):=by
 intro args H r H' h G w rargs hs hr
 unfold qq6 at h
 split at h
 .rename_i n
  split at h
  .rename_i hc
   obtain ⟨hg,hc1,hc2,hc3,hc4⟩:=hc
   cases h
   simp only [qm,Rel] at hr
   obtain ⟨x,xs,h1,rfl,rfl⟩:=hr
   have hra:rargs = #[.int .i64 n]:=by apply Array.ext';simpa using h1
   obtain ⟨m,hG⟩:=hs.globs _ _ hc1 hg
   obtain ⟨_,_,q2⟩:=hs.obj _ _ hc2 hg
   obtain ⟨_,_,_,hn,_,hrow⟩:=q2 0 (ρ.g 17) 0 m hG
   obtain ⟨arr,fz',hb,hsz,hrel,_,hex⟩:=hrow (zN _)
   have hm:m=zpm.length:=hn rfl
   have hz:arr.size=zpm.length:=hex rfl
   rw [hm,List.drop_zero,Nat.sub_zero,List.take_length,List.take_of_length_le (by simp [hz])] at hrel
   have harr:arr=(Lib.pow10Tab.map fun z=>Value.int .u64 z).toArray:=by
    apply Array.ext'
    rw [qz7 hrel]
   have htab:Lib.TabIs P w "internal/strconv.uint64pow10" .u64 Lib.pow10Tab:=by
    unfold Lib.TabIs World.var?
    rw [L.m17]
    simp only [zB,hb,harr]
   refine ⟨_,_,L.f171,rfl,rfl,fun F n' hF=>?_⟩
   rw [hra]
   refine zfm hF ((Go.Proofs.Any.strconv_Itoa L n hc3 hc4 w htab).mono ?_)
   rintro e w' ⟨rfl,k,os,rfl⟩
   exact ⟨G,Step.grown hs k os,_,rfl,by simp only [Rel]⟩
  .cases h
 .cases h
end Go.E2
namespace Go.Proofs.YtpbliaccnbgapaaGreatDoor
open Go.Shelf
set_option maxRecDepth 100000
def zqu:Ren:=⟨fun | 171=>26 | 243=>64 | 246=>99 | 283=>130 | 284=>131 | 285=>132 | 286=>133 | 129=>155 | 317=>154 | 318=>156 | 319=>157 | 320=>158 | 337=>177 | 338=>178 | n=>n,fun | 171=>206 | 53=>207 | 37=>61 | 173=>210 | 212=>235 | 51=>236 | 213=>237 | 46=>152 | 232=>295 | 233=>296 | n=>n,fun | 17=>0 | 18=>4 | 19=>5 | n=>n⟩
theorem zqt:LaysM.n171 Tryz.prog zqu where
 mixed:=by kernel_rfl
 f129:=Tryz.func155.trans (congrArg some (by kernel_rfl))
 f171:=Tryz.func26.trans (congrArg some (by kernel_rfl))
 f243:=Tryz.func64.trans (congrArg some (by kernel_rfl))
 f246:=Tryz.func99.trans (congrArg some (by kernel_rfl))
 f283:=Tryz.func130.trans (congrArg some (by kernel_rfl))
 f284:=Tryz.func131.trans (congrArg some (by kernel_rfl))
 f285:=Tryz.func132.trans (congrArg some (by kernel_rfl))
 f286:=Tryz.func133.trans (congrArg some (by kernel_rfl))
 f317:=Tryz.func154.trans (congrArg some (by kernel_rfl))
 f318:=Tryz.func156.trans (congrArg some (by kernel_rfl))
 f319:=Tryz.func157.trans (congrArg some (by kernel_rfl))
 f320:=Tryz.func158.trans (congrArg some (by kernel_rfl))
 f337:=Tryz.func177.trans (congrArg some (by kernel_rfl))
 f338:=Tryz.func178.trans (congrArg some (by kernel_rfl))
 t0:=Tryz.underlying0
 a0:=Tryz.isAgg0
 z0:=Tryz.sizeOf0
 v0:=Tryz.zeroValue0
 t2:=Tryz.underlying2
 a2:=Tryz.isAgg2
 z2:=Tryz.sizeOf2
 v2:=Tryz.zeroValue2
 t3:=Tryz.underlying3
 a3:=Tryz.isAgg3
 z3:=Tryz.sizeOf3
 v3:=Tryz.zeroValue3
 t4:=Tryz.underlying4
 a4:=Tryz.isAgg4
 z4:=Tryz.sizeOf4
 v4:=Tryz.zeroValue4
 t5:=Tryz.underlying5
 a5:=Tryz.isAgg5
 z5:=Tryz.sizeOf5
 v5:=Tryz.zeroValue5
 t9:=Tryz.underlying9
 a9:=Tryz.isAgg9
 z9:=Tryz.sizeOf9
 v9:=Tryz.zeroValue9
 t20:=Tryz.underlying20
 a20:=Tryz.isAgg20
 z20:=Tryz.sizeOf20
 v20:=Tryz.zeroValue20
 t37:=Tryz.underlying61
 a37:=Tryz.isAgg61
 z37:=Tryz.sizeOf61
 v37:=Tryz.zeroValue61
 t46:=Tryz.underlying152
 a46:=Tryz.isAgg152
 z46:=Tryz.sizeOf152
 v46:=Tryz.zeroValue152
 t51:=Tryz.underlying236
 a51:=Tryz.isAgg236
 z51:=Tryz.sizeOf236
 v51:=Tryz.zeroValue236
 t53:=Tryz.underlying207
 a53:=Tryz.isAgg207
 z53:=Tryz.sizeOf207
 v53:=Tryz.zeroValue207
 t171:=Tryz.underlying206
 a171:=Tryz.isAgg206
 z171:=Tryz.sizeOf206
 v171:=Tryz.zeroValue206
 t173:=Tryz.underlying210
 a173:=Tryz.isAgg210
 z173:=Tryz.sizeOf210
 v173:=Tryz.zeroValue210
 t212:=Tryz.underlying235
 a212:=Tryz.isAgg235
 z212:=Tryz.sizeOf235
 v212:=Tryz.zeroValue235
 t213:=Tryz.underlying237
 a213:=Tryz.isAgg237
 z213:=Tryz.sizeOf237
 t232:=Tryz.underlying295
 a232:=Tryz.isAgg295
 z232:=Tryz.sizeOf295
 v232:=Tryz.zeroValue295
 t233:=Tryz.underlying296
 a233:=Tryz.isAgg296
 z233:=Tryz.sizeOf296
 v233:=Tryz.zeroValue296
 g17:=by kernel_rfl
 g18:=by kernel_rfl
 g19:=by kernel_rfl
 i0:=by kernel_rfl
 i2:=by kernel_rfl
 i3:=by kernel_rfl
 i4:=by kernel_rfl
 i5:=by kernel_rfl
 i9:=by kernel_rfl
 i20:=by kernel_rfl
 i37:=by kernel_rfl
 i46:=by kernel_rfl
 i51:=by kernel_rfl
 i53:=by kernel_rfl
 i171:=by kernel_rfl
 i173:=by kernel_rfl
 i212:=by kernel_rfl
 i232:=by kernel_rfl
 i233:=by kernel_rfl
 m17:=by kernel_rfl
 m18:=by kernel_rfl
 m19:=by kernel_rfl
theorem zo5:E2.zm Tryz.prog 26 (E2.qq6 0 235):=E2.zc2 zqt 235
end Go.Proofs.YtpbliaccnbgapaaGreatDoor
