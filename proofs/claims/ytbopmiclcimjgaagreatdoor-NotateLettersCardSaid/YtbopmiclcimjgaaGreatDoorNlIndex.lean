/- internal/stringslite.Index, BY THE LIBRARY's CONTRACT, as a call that a law proved elsewhere answers. No condition beyond: the variable internal/bytealg.MaxLen holds some number. -/
import Derived.Test.YtbopmiclcimjgaaGreatDoorM2
import Derived.Test.YtbopmiclcimjgaaGreatDoorRows
import Derived.Shelf.Strings.Search2
namespace Go.E2
open Go
set_option maxRecDepth 100000
section
variable {F:Fence} {P:Program} {m m':Machine} {e:Ending} {f:FuncId} {args:Array Value} {w:World} {n:Nat} {R:Ending->World->Prop}
theorem qnq (hF:qam F) (m:Machine):m.fenced P F:=fun g _=>⟨fun h=>(by rw [hF.2.2] at h;cases h),.inl (hF.1 _),fun f _=>hF.1 f,fun d h=>(by rw [hF.2.1] at h;cases h)⟩
theorem qwv (hF:qam F) (h:Comes P m m' e):ComesIn (Machine.fenced P F) P m m' e:=by
 cases e with
 | returned v=>exact (StepsIn.of_steps h).mono fun m _=>qnq hF m
 | panicked c=>exact (StepsIn.of_steps h).mono fun m _=>qnq hF m
 | outgrown=>exact h
theorem qyb (hF:qam F) (h:Calls P f args w R):CallsIn F n P f args w R:=⟨hF.1 f,fun cs _=>by
 obtain ⟨e,w',fr,r,s,x⟩:=h cs
 exact ⟨e,w',fr,r,qwv hF s,x⟩⟩
end
def qp2 (g:Nat) (args:List V) (H:Heap):Option (CR×Heap):=
 match args with
 | [.str a,.str b]=>match H.get g with
  | some (.row [.int .i64 _] _ 0 0 _ _)=>if g<H.qk/\g<H.next/\a.length<4294967281 then some (.ret (.int .i64 (Go.Lib.index a b)),H) else none
  | _=>none
 | _=>none
theorem qyo {P:Program} {ρ:Go.Shelf.Ren} (L:Go.Proofs.Lays.n219 P ρ):kb P (ρ.f 219) (qp2 (ρ.g 1)):=by
 intro args H r H' h G w rargs hs hr
 unfold qp2 at h
 split at h
 .rename_i a b
  split at h
  .rename_i m t fz ex hg
   split at h
   .rename_i hc
    obtain ⟨hc1,hc2,hc3⟩:=hc
    cases h
    simp only [qd,Rel] at hr
    obtain ⟨x,xs,h1,rfl,y,ys,rfl,rfl,rfl⟩:=hr
    have hra:rargs = #[.string ⟨a.toArray⟩,.string ⟨b.toArray⟩]:=by apply Array.ext';simpa using h1
    obtain ⟨n,hG⟩:=hs.globs _ _ hc1 hg
    obtain ⟨_,_,q2⟩:=hs.obj _ _ hc2 hg
    obtain ⟨_,_,_,hn,_,hrow⟩:=q2 0 (ρ.g 1) 0 n hG
    obtain ⟨arr,fz',hb,hsz,hrel,_⟩:=hrow (zN _)
    obtain rfl:n=1:=hn rfl
    have hm:w.cell? ⟨ρ.g 1,0,none⟩=some (.int .i64 m):=by
     simp only [List.take_succ_cons,List.take_zero,List.drop_zero,Nat.sub_zero,qw] at hrel
     obtain ⟨x,xs,h2,h3,_⟩:=hrel
     have hx:x=.int .i64 m:=by
      rcases h3 with h3 | h3
      .cases h3
      .simpa only [Rel] using h3
     subst hx
     have h0:arr[0]? = some (.int .i64 m):=by
      rw [<-Array.getElem?_toList]
      cases hl:arr.toList with
      | nil=>rw [hl] at h2;cases h2
      | cons z zs=>rw [hl] at h2;simp only [List.take_succ_cons] at h2;cases h2;rfl
     simp only [World.cell?,hb]
     simpa using h0
    refine ⟨_,_,L.f219,rfl,rfl,fun F n hF=>?_⟩
    rw [hra]
    refine qyb hF ((Go.Proofs.Any.stringslite_Index L ⟨a.toArray⟩ ⟨b.toArray⟩ m w (by simpa [ByteArray.size] using hc3) hm).mono ?_)
    rintro e w' ⟨rfl,rfl⟩
    exact ⟨G,Step.refl hs,_,rfl,by simp only [Rel]⟩
   .cases h
  .cases h
 .cases h
end Go.E2
namespace Go.Proofs.YtbopmiclcimjgaaGreatDoor
open Go.Shelf
set_option maxRecDepth 100000
def q2d:Ren:=⟨fun | 219=>110 | 217=>115 | 225=>133 | 224=>134 | 267=>135 | 266=>137 | 314=>146 | n=>n,fun | 9=>9 | 3=>3 | 4=>4 | 5=>5 | 46=>161 | 146=>168 | 51=>167 | n=>n,fun | 1=>1 | n=>n⟩
theorem q0n:Lays.n219 Tryz.prog q2d where
 mixed:=by kernel_rfl
 f217:=Tryz.func115.trans (congrArg some (by kernel_rfl))
 f219:=Tryz.func110.trans (congrArg some (by kernel_rfl))
 f224:=Tryz.func134.trans (congrArg some (by kernel_rfl))
 f225:=Tryz.func133.trans (congrArg some (by kernel_rfl))
 f266:=Tryz.func137.trans (congrArg some (by kernel_rfl))
 f267:=Tryz.func135.trans (congrArg some (by kernel_rfl))
 f314:=Tryz.func146.trans (congrArg some (by kernel_rfl))
 t3:=Tryz.underlying3
 a3:=Tryz.isAgg3
 z3:=Tryz.sizeOf3
 v3:=Tryz.zeroValue3
 t4:=Tryz.underlying4
 a4:=Tryz.isAgg4
 z4:=Tryz.sizeOf4
 v4:=Tryz.zeroValue4
 t5:=Tryz.underlying5
 a5:=Tryz.isAgg5
 z5:=Tryz.sizeOf5
 v5:=Tryz.zeroValue5
 t9:=Tryz.underlying9
 a9:=Tryz.isAgg9
 z9:=Tryz.sizeOf9
 v9:=Tryz.zeroValue9
 t46:=Tryz.underlying161
 a46:=Tryz.isAgg161
 z46:=Tryz.sizeOf161
 v46:=Tryz.zeroValue161
 t51:=Tryz.underlying167
 a51:=Tryz.isAgg167
 z51:=Tryz.sizeOf167
 v51:=Tryz.zeroValue167
 t146:=Tryz.underlying168
 a146:=Tryz.isAgg168
 z146:=Tryz.sizeOf168
 v146:=Tryz.zeroValue168
 g1:=by kernel_rfl
theorem q0l:E2.kb Tryz.prog 110 (E2.qp2 1):=E2.qyo q0n
end Go.Proofs.YtbopmiclcimjgaaGreatDoor
