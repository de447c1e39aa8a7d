/- WHAT IS SAID OF THE PROGRAM beside its text: its lists' elements' types. Made by program (vc.py). -/
import Derived.Test.YtbopmiclcimjgaaGreatDoorNat
import Derived.Test.YtbopmiclcimjgaaGreatDoorRows
import Derived.Test.YtbopmiclcimjgaaGreatDoorNotateGlob
namespace Go.Proofs.YtbopmiclcimjgaaGreatDoor
open Go Go.E2 Go.E3
set_option maxRecDepth 100000
variable {sp:Nat->Option (List V->Heap->Option (CR×Heap))}
def qks:List (Nat×Nat):=[(3,1),(5,0),(9,2),(23,12),(27,4)]
def zkq:List (Nat×Nat):=[(149,23),(162,24)]
def zl1:List Nat:=[117,9]
def q0v:Nat->Option (List (PV KT))
  | 0=>some [.lit false,.lit false,.lit false,.lit false,.lit false,.lit false,.lit false,.lit false,.lit false,.lit false,.lit false,.lit false,.lit true,.lit true,.lit true,.lit true,.lit false,.lit false,.lit false,.lit false,.lit false,.lit false,.lit false,.lit false,.lit true,.lit false,.lit false,.lit false,.lit false,.lit false,.lit false,.lit false,.lit false,.lit false,.lit false,.lit false,.lit false,.lit false,.lit false,.lit false,.lit false,.lit false,.lit false,.lit false,.lit false,.lit false,.lit false,.lit false,.lit false,.lit true,.lit true,.lit true,.lit true,.lit true,.lit true,.lit false,.lit false,.lit false,.lit false,.lit false,.lit false,.lit false,.lit false,.lit false,.lit false,.lit false,.lit false,.lit true,.lit true,.lit false,.lit false,.lit false,.lit false,.lit false,.lit false,.lit false,.lit false,.lit false,.lit false,.lit false,.lit false,.lit true,.lit true,.lit false,.lit false,.lit false,.lit false,.lit false,.lit false,.lit false,.lit false,.lit false,.lit false,.lit false,.lit false,.lit true,.lit false,.lit false,.lit false,.lit false,.lit false,.lit false,.lit false,.lit false,.lit false,.lit true,.lit false,.lit false,.lit false,.lit false,.lit false,.lit false,.lit false,.lit false,.lit false,.lit false,.lit false,.lit false,.lit false,.lit false,.lit false,.lit false,.lit false,.lit false,.lit false,.lit false,.lit false,.lit false,.lit false,.lit true,.lit false,.lit false,.lit false,.lit false,.lit false,.lit false,.lit false,.lit false,.lit false,.lit false,.lit false,.lit false,.lit false,.lit false,.lit false,.lit false,.lit false,.lit false,.lit false,.lit false,.lit false,.lit false,.lit false,.lit false,.lit false,.lit false]
  | _=>none
noncomputable def cfg (sp:Nat->Option (List V->Heap->Option (CR×Heap))):Cfg Int Bool (List UInt8) Prop (fun c=>List (KT c)):={E:=qz Tryz.prog sp,zd:=q0v,codec:=Go.E3.look qks,ann:=fun _ _=>none,ans:=fun f=>zl1.any fun g=>Nat.beq g f,ng:=7,prim:=fun f=>Nat.beq f 35,gobj:=Go.E3.look notateAwake.zd,mcod:=Go.E3.look zkq}
theorem zlc:((qz Tryz.prog sp).types 3).map (·.size)=some 1:=by kernel_rfl
theorem zld:((qz Tryz.prog sp).types 5).map (·.size)=some 1:=by kernel_rfl
theorem zle:((qz Tryz.prog sp).types 9).map (·.size)=some 1:=by kernel_rfl
theorem zjl:((qz Tryz.prog sp).types 23).map (·.size)=some 4:=by kernel_rfl
theorem zjm:((qz Tryz.prog sp).types 27).map (·.size)=some 17:=by kernel_rfl
theorem qaw:CfgOk XK szK (cfg sp):=by
  have mem:∀ e c,Go.E3.look qks e=some c->(e,c) ∈ qks:=fun e c h=>qfc h
  refine ⟨zl7,fun e c h=>?_,fun e c ti h ht=>?_,fun e e' c h h'=>?_,zmg,fun _=>rfl,zi7⟩
  . have:=mem e c h
    simp only [qks,List.mem_cons,Prod.mk.injEq,List.not_mem_nil,or_false] at this
    rcases this with ⟨rfl,rfl⟩ | ⟨rfl,rfl⟩ | ⟨rfl,rfl⟩ | ⟨rfl,rfl⟩ | ⟨rfl,rfl⟩<;>exact Nat.lt_of_lt_of_le Nat.zero_lt_one (by decide)
  . have:=mem e c h
    simp only [qks,List.mem_cons,Prod.mk.injEq,List.not_mem_nil,or_false] at this
    rcases this with ⟨rfl,rfl⟩ | ⟨rfl,rfl⟩ | ⟨rfl,rfl⟩ | ⟨rfl,rfl⟩ | ⟨rfl,rfl⟩
    . have:=zlc (sp:=sp)
      have ht':(qz Tryz.prog sp).types 3=some ti:=ht
      rw [ht'] at this
      exact Option.some.inj this
    . have:=zld (sp:=sp)
      have ht':(qz Tryz.prog sp).types 5=some ti:=ht
      rw [ht'] at this
      exact Option.some.inj this
    . have:=zle (sp:=sp)
      have ht':(qz Tryz.prog sp).types 9=some ti:=ht
      rw [ht'] at this
      exact Option.some.inj this
    . have:=zjl (sp:=sp)
      have ht':(qz Tryz.prog sp).types 23=some ti:=ht
      rw [ht'] at this
      exact Option.some.inj this
    . have:=zjm (sp:=sp)
      have ht':(qz Tryz.prog sp).types 27=some ti:=ht
      rw [ht'] at this
      exact Option.some.inj this
  . have key:∀ x ∈ qks,∀ y ∈ qks,x.2=y.2->x.1=y.1:=by decide
    exact key _ (mem e c h) _ (mem e' c h') rfl
theorem jd:CfgOk2 XK (cfg sp):=by
  refine ⟨zi8,fun gn ps h p hp=>?_⟩
  have h':q0v gn=some ps:=h
  unfold q0v at h'
  split at h'
  . cases h'
    exact zg rfl p hp
  . cases h'
end Go.Proofs.YtbopmiclcimjgaaGreatDoor
