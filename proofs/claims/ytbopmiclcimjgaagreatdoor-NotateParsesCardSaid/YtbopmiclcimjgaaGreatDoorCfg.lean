import Derived.Test.YtbopmiclcimjgaaGreatDoorNat
import Derived.Test.YtbopmiclcimjgaaGreatDoorRows
import Derived.Test.YtbopmiclcimjgaaGreatDoorNotateGlob
namespace Go.Proofs.YtbopmiclcimjgaaGreatDoor
open Go Go.E2 Go.E3
set_option maxRecDepth 100000
variable {sp:Nat->Option (List V->Heap->Option (CR×Heap))}
def qmg:List (Nat×Nat):=[(3,1),(5,0),(9,2),(23,12),(27,4),(56,6),(100,5)]
def zsv:List (Nat×Nat):=[(149,23),(162,24)]
def zt0:List Nat:=[117,9]
def q5r:Nat->Option (List (PV KT))
 | 0=>some [.lit false,.lit false,.lit false,.lit false,.lit false,.lit false,.lit false,.lit false,.lit false,.lit false,.lit false,.lit false,.lit true,.lit true,.lit true,.lit true,.lit false,.lit false,.lit false,.lit false,.lit false,.lit false,.lit false,.lit false,.lit true,.lit false,.lit false,.lit false,.lit false,.lit false,.lit false,.lit false,.lit false,.lit false,.lit false,.lit false,.lit false,.lit false,.lit false,.lit false,.lit false,.lit false,.lit false,.lit false,.lit false,.lit false,.lit false,.lit false,.lit false,.lit true,.lit true,.lit true,.lit true,.lit true,.lit true,.lit false,.lit false,.lit false,.lit false,.lit false,.lit false,.lit false,.lit false,.lit false,.lit false,.lit false,.lit false,.lit true,.lit true,.lit false,.lit false,.lit false,.lit false,.lit false,.lit false,.lit false,.lit false,.lit false,.lit false,.lit false,.lit false,.lit true,.lit true,.lit false,.lit false,.lit false,.lit false,.lit false,.lit false,.lit false,.lit false,.lit false,.lit false,.lit false,.lit false,.lit true,.lit false,.lit false,.lit false,.lit false,.lit false,.lit false,.lit false,.lit false,.lit false,.lit true,.lit false,.lit false,.lit false,.lit false,.lit false,.lit false,.lit false,.lit false,.lit false,.lit false,.lit false,.lit false,.lit false,.lit false,.lit false,.lit false,.lit false,.lit false,.lit false,.lit false,.lit false,.lit false,.lit false,.lit true,.lit false,.lit false,.lit false,.lit false,.lit false,.lit false,.lit false,.lit false,.lit false,.lit false,.lit false,.lit false,.lit false,.lit false,.lit false,.lit false,.lit false,.lit false,.lit false,.lit false,.lit false,.lit false,.lit false,.lit false,.lit false,.lit false]
 | _=>none
noncomputable def cfg (sp:Nat->Option (List V->Heap->Option (CR×Heap))):Cfg Int Bool ZB Prop (fun c=>List (KT c)):={E:=za Tryz.prog sp,zf:=q5r,codec:=Go.E3.look qmg,ann:=fun _ _=>none,ans:=fun f=>zt0.any fun g=>Nat.beq g f,ng:=7,prim:=fun f=>Nat.beq f 35,gobj:=Go.E3.look notateAwake.zf,mcod:=Go.E3.look zsv}
theorem ztk:((za Tryz.prog sp).types 3).map (·.size)=some 1:=by kernel_rfl
theorem ztl:((za Tryz.prog sp).types 5).map (·.size)=some 1:=by kernel_rfl
theorem ztm:((za Tryz.prog sp).types 9).map (·.size)=some 1:=by kernel_rfl
theorem zrq:((za Tryz.prog sp).types 23).map (·.size)=some 4:=by kernel_rfl
theorem zrr:((za Tryz.prog sp).types 27).map (·.size)=some 17:=by kernel_rfl
theorem zrs:((za Tryz.prog sp).types 56).map (·.size)=some 2:=by kernel_rfl
theorem zok:((za Tryz.prog sp).types 100).map (·.size)=some 3:=by kernel_rfl
theorem j5:CfgOk XK szK (cfg sp):=by
 have mem:∀ e c,Go.E3.look qmg e=some c->(e,c) ∈ qmg:=fun e c h=>qgc h
 refine ⟨zt6,fun e c h=>?_,fun e c ti h ht=>?_,fun e e' c h h'=>?_,zug,fun _=>rfl,zq6⟩
 .have:=mem e c h
  simp only [qmg,zD,zP,List.not_mem_nil,or_false] at this
  rcases this with ⟨rfl,rfl⟩ | ⟨rfl,rfl⟩ | ⟨rfl,rfl⟩ | ⟨rfl,rfl⟩ | ⟨rfl,rfl⟩ | ⟨rfl,rfl⟩ | ⟨rfl,rfl⟩<;>exact zL Nat.zero_lt_one (by decide)
 .have:=mem e c h
  simp only [qmg,zD,zP,List.not_mem_nil,or_false] at this
  rcases this with ⟨rfl,rfl⟩ | ⟨rfl,rfl⟩ | ⟨rfl,rfl⟩ | ⟨rfl,rfl⟩ | ⟨rfl,rfl⟩ | ⟨rfl,rfl⟩ | ⟨rfl,rfl⟩
  .have:=ztk (sp:=sp)
   have ht':(za Tryz.prog sp).types 3=some ti:=ht
   rw [ht'] at this
   exact Option.some.inj this
  .have:=ztl (sp:=sp)
   have ht':(za Tryz.prog sp).types 5=some ti:=ht
   rw [ht'] at this
   exact Option.some.inj this
  .have:=ztm (sp:=sp)
   have ht':(za Tryz.prog sp).types 9=some ti:=ht
   rw [ht'] at this
   exact Option.some.inj this
  .have:=zrq (sp:=sp)
   have ht':(za Tryz.prog sp).types 23=some ti:=ht
   rw [ht'] at this
   exact Option.some.inj this
  .have:=zrr (sp:=sp)
   have ht':(za Tryz.prog sp).types 27=some ti:=ht
   rw [ht'] at this
   exact Option.some.inj this
  .have:=zrs (sp:=sp)
   have ht':(za Tryz.prog sp).types 56=some ti:=ht
   rw [ht'] at this
   exact Option.some.inj this
  .have:=zok (sp:=sp)
   have ht':(za Tryz.prog sp).types 100=some ti:=ht
   rw [ht'] at this
   exact Option.some.inj this
 .have key:∀ x ∈ qmg,∀ y ∈ qmg,x.2=y.2->x.1=y.1:=by decide
  exact key _ (mem e c h) _ (mem e' c h') rfl
theorem ka:CfgOk2 XK (cfg sp):=by
 refine ⟨zq7,fun gn ps h p hp=>?_⟩
 have h':q5r gn=some ps:=h
 unfold q5r at h'
 split at h'
 .cases h'
  exact qw rfl p hp
 .cases h'
end Go.Proofs.YtbopmiclcimjgaaGreatDoor
