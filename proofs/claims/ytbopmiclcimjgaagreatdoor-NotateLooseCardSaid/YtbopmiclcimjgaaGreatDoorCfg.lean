/- WHAT IS SAID OF THE PROGRAM beside its text: its lists' elements' types. Made by program (vc.py). -/
import Derived.Test.YtbopmiclcimjgaaGreatDoorNat
import Derived.Test.YtbopmiclcimjgaaGreatDoorRows
import Derived.Test.YtbopmiclcimjgaaGreatDoorNotateGlob
namespace Go.Proofs.YtbopmiclcimjgaaGreatDoor
open Go Go.E2 Go.E3
set_option maxRecDepth 100000
variable {sp:Nat->Option (List V->Heap->Option (CR×Heap))}
def qmu:List (Nat×Nat):=[(3,1),(5,0),(9,2),(27,4),(56,6),(100,5)]
def zt5:List (Nat×Nat):=[(149,23),(162,24)]
def zvz:List Nat:=[117,20]
def q6d:Nat->Option (List (PV KT))
  | 0=>some [.lit false,.lit false,.lit false,.lit false,.lit false,.lit false,.lit false,.lit false,.lit false,.lit false,.lit false,.lit false,.lit true,.lit true,.lit true,.lit true,.lit false,.lit false,.lit false,.lit false,.lit false,.lit false,.lit false,.lit false,.lit true,.lit false,.lit false,.lit false,.lit false,.lit false,.lit false,.lit false,.lit false,.lit false,.lit false,.lit false,.lit false,.lit false,.lit false,.lit false,.lit false,.lit false,.lit false,.lit false,.lit false,.lit false,.lit false,.lit false,.lit false,.lit true,.lit true,.lit true,.lit true,.lit true,.lit true,.lit false,.lit false,.lit false,.lit false,.lit false,.lit false,.lit false,.lit false,.lit false,.lit false,.lit false,.lit false,.lit true,.lit true,.lit false,.lit false,.lit false,.lit false,.lit false,.lit false,.lit false,.lit false,.lit false,.lit false,.lit false,.lit false,.lit true,.lit true,.lit false,.lit false,.lit false,.lit false,.lit false,.lit false,.lit false,.lit false,.lit false,.lit false,.lit false,.lit false,.lit true,.lit false,.lit false,.lit false,.lit false,.lit false,.lit false,.lit false,.lit false,.lit false,.lit true,.lit false,.lit false,.lit false,.lit false,.lit false,.lit false,.lit false,.lit false,.lit false,.lit false,.lit false,.lit false,.lit false,.lit false,.lit false,.lit false,.lit false,.lit false,.lit false,.lit false,.lit false,.lit false,.lit false,.lit true,.lit false,.lit false,.lit false,.lit false,.lit false,.lit false,.lit false,.lit false,.lit false,.lit false,.lit false,.lit false,.lit false,.lit false,.lit false,.lit false,.lit false,.lit false,.lit false,.lit false,.lit false,.lit false,.lit false,.lit false,.lit false,.lit false]
  | _=>none
noncomputable def cfg (sp:Nat->Option (List V->Heap->Option (CR×Heap))):Cfg Int Bool ZB Prop (fun c=>List (KT c)):={E:=qp Tryz.prog sp,qz:=q6d,codec:=Go.E3.look qmu,ann:=fun _ _=>none,ans:=fun f=>zvz.any fun g=>Nat.beq g f,ng:=7,prim:=fun f=>Nat.beq f 35,gobj:=Go.E3.look notateAwake.qz,mcod:=Go.E3.look zt5}
theorem zu9:((qp Tryz.prog sp).types 3).map (·.size)=some 1:=by kernel_rfl
theorem zva:((qp Tryz.prog sp).types 5).map (·.size)=some 1:=by kernel_rfl
theorem zvb:((qp Tryz.prog sp).types 9).map (·.size)=some 1:=by kernel_rfl
theorem zss:((qp Tryz.prog sp).types 27).map (·.size)=some 17:=by kernel_rfl
theorem zst:((qp Tryz.prog sp).types 56).map (·.size)=some 2:=by kernel_rfl
theorem zo9:((qp Tryz.prog sp).types 100).map (·.size)=some 3:=by kernel_rfl
theorem qbv:CfgOk XK szK (cfg sp):=by
  have mem:∀ e c,Go.E3.look qmu e=some c->(e,c) ∈ qmu:=fun e c h=>qes h
  refine ⟨zv1,fun e c h=>?_,fun e c ti h ht=>?_,fun e e' c h h'=>?_,zwe,fun _=>rfl,zsa⟩
  . have:=mem e c h
    simp only [qmu,zD,zP,List.not_mem_nil,or_false] at this
    rcases this with ⟨rfl,rfl⟩ | ⟨rfl,rfl⟩ | ⟨rfl,rfl⟩ | ⟨rfl,rfl⟩ | ⟨rfl,rfl⟩ | ⟨rfl,rfl⟩<;>exact zL Nat.zero_lt_one (by decide)
  . have:=mem e c h
    simp only [qmu,zD,zP,List.not_mem_nil,or_false] at this
    rcases this with ⟨rfl,rfl⟩ | ⟨rfl,rfl⟩ | ⟨rfl,rfl⟩ | ⟨rfl,rfl⟩ | ⟨rfl,rfl⟩ | ⟨rfl,rfl⟩
    . have:=zu9 (sp:=sp)
      have ht':(qp Tryz.prog sp).types 3=some ti:=ht
      rw [ht'] at this
      exact Option.some.inj this
    . have:=zva (sp:=sp)
      have ht':(qp Tryz.prog sp).types 5=some ti:=ht
      rw [ht'] at this
      exact Option.some.inj this
    . have:=zvb (sp:=sp)
      have ht':(qp Tryz.prog sp).types 9=some ti:=ht
      rw [ht'] at this
      exact Option.some.inj this
    . have:=zss (sp:=sp)
      have ht':(qp Tryz.prog sp).types 27=some ti:=ht
      rw [ht'] at this
      exact Option.some.inj this
    . have:=zst (sp:=sp)
      have ht':(qp Tryz.prog sp).types 56=some ti:=ht
      rw [ht'] at this
      exact Option.some.inj this
    . have:=zo9 (sp:=sp)
      have ht':(qp Tryz.prog sp).types 100=some ti:=ht
      rw [ht'] at this
      exact Option.some.inj this
  . have key:∀ x ∈ qmu,∀ y ∈ qmu,x.2=y.2->x.1=y.1:=by decide
    exact key _ (mem e c h) _ (mem e' c h') rfl
theorem jx:CfgOk2 XK (cfg sp):=by
  refine ⟨zsc,fun gn ps h p hp=>?_⟩
  have h':q6d gn=some ps:=h
  unfold q6d at h'
  split at h'
  . cases h'
    exact zh rfl p hp
  . cases h'
end Go.Proofs.YtbopmiclcimjgaaGreatDoor
