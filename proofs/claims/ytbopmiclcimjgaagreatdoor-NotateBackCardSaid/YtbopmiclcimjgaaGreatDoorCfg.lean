import Derived.Test.YtbopmiclcimjgaaGreatDoorNat
import Derived.Test.YtbopmiclcimjgaaGreatDoorRows
import Derived.Test.YtbopmiclcimjgaaGreatDoorNotateGlob
namespace Go.Proofs.YtbopmiclcimjgaaGreatDoor
open Go Go.E2 Go.E3
set_option maxRecDepth 100000
variable {sp:Nat->Option (List V->Heap->Option (CR×Heap))}
def qm6:List (Nat×Nat):=[(3,1),(5,0),(9,2),(27,4),(56,6),(100,5)]
def zvc:List (Nat×Nat):=[(149,23),(162,24)]
def zw8:List Nat:=[117,20]
def q6x:Nat->Option (List (PV KT))
  | 0=>some ([0,0,0,0,0,0,0,0,0,0,0,0,1,1,1,1,0,0,0,0,0,0,0,0,1,0,0,0,0,0,0,0,0,0,0,0,0,0,0,0,0,0,0,0,0,0,0,0,0,1,1,1,1,1,1,0,0,0,0,0,0,0,0,0,0,0,0,1,1,0,0,0,0,0,0,0,0,0,0,0,0,1,1,0,0,0,0,0,0,0,0,0,0,0,0,1,0,0,0,0,0,0,0,0,0,1,0,0,0,0,0,0,0,0,0,0,0,0,0,0,0,0,0,0,0,0,0,0,0,1,0,0,0,0,0,0,0,0,0,0,0,0,0,0,0,0,0,0,0,0,0,0,0,0,0,0].map fun n:Nat=>.lit (Nat.beq n 1))
  | _=>none
noncomputable def cfg (sp:Nat->Option (List V->Heap->Option (CR×Heap))):Cfg Int Bool ZB Prop (fun c=>List (KT c)):={E:=qq Tryz.prog sp,za:=q6x,codec:=Go.E3.look qm6,ann:=fun _ _=>none,ans:=fun f=>zw8.any fun g=>Nat.beq g f,ng:=7,prim:=fun f=>Nat.beq f 35,gobj:=Go.E3.look notateAwake.za,mcod:=Go.E3.look zvc}
theorem zwi:((qq Tryz.prog sp).types 3).map (·.size)=some 1:=by kernel_rfl
theorem zwj:((qq Tryz.prog sp).types 5).map (·.size)=some 1:=by kernel_rfl
theorem zwk:((qq Tryz.prog sp).types 9).map (·.size)=some 1:=by kernel_rfl
theorem zt2:((qq Tryz.prog sp).types 27).map (·.size)=some 17:=by kernel_rfl
theorem zt3:((qq Tryz.prog sp).types 56).map (·.size)=some 2:=by kernel_rfl
theorem zqk:((qq Tryz.prog sp).types 100).map (·.size)=some 3:=by kernel_rfl
theorem qbi:CfgOk XK szK (cfg sp):=by
  have mem:∀ e c,Go.E3.look qm6 e=some c->(e,c) ∈ qm6:=fun e c h=>qe5 h
  refine ⟨zxa,fun e c h=>?_,fun e c ti h ht=>?_,fun e e' c h h'=>?_,zxl,fun _=>rfl,ztk⟩
  . have:=mem e c h
    simp only [qm6,zD,zP,List.not_mem_nil,or_false] at this
    rcases this with ⟨rfl,rfl⟩ | ⟨rfl,rfl⟩ | ⟨rfl,rfl⟩ | ⟨rfl,rfl⟩ | ⟨rfl,rfl⟩ | ⟨rfl,rfl⟩<;>exact zL Nat.zero_lt_one (by decide)
  . have:=mem e c h
    simp only [qm6,zD,zP,List.not_mem_nil,or_false] at this
    rcases this with ⟨rfl,rfl⟩ | ⟨rfl,rfl⟩ | ⟨rfl,rfl⟩ | ⟨rfl,rfl⟩ | ⟨rfl,rfl⟩ | ⟨rfl,rfl⟩
    . have:=zwi (sp:=sp)
      have ht':(qq Tryz.prog sp).types 3=some ti:=ht
      rw [ht'] at this
      exact Option.some.inj this
    . have:=zwj (sp:=sp)
      have ht':(qq Tryz.prog sp).types 5=some ti:=ht
      rw [ht'] at this
      exact Option.some.inj this
    . have:=zwk (sp:=sp)
      have ht':(qq Tryz.prog sp).types 9=some ti:=ht
      rw [ht'] at this
      exact Option.some.inj this
    . have:=zt2 (sp:=sp)
      have ht':(qq Tryz.prog sp).types 27=some ti:=ht
      rw [ht'] at this
      exact Option.some.inj this
    . have:=zt3 (sp:=sp)
      have ht':(qq Tryz.prog sp).types 56=some ti:=ht
      rw [ht'] at this
      exact Option.some.inj this
    . have:=zqk (sp:=sp)
      have ht':(qq Tryz.prog sp).types 100=some ti:=ht
      rw [ht'] at this
      exact Option.some.inj this
  . have key:∀ x ∈ qm6,∀ y ∈ qm6,x.2=y.2->x.1=y.1:=by decide
    exact key _ (mem e c h) _ (mem e' c h') rfl
theorem ju:CfgOk2 XK (cfg sp):=by
  refine ⟨ztm,fun gn ps h p hp=>?_⟩
  have h':q6x gn=some ps:=h
  unfold q6x at h'
  split at h'
  . cases h'
    exact zh rfl p hp
  . cases h'
end Go.Proofs.YtbopmiclcimjgaaGreatDoor
