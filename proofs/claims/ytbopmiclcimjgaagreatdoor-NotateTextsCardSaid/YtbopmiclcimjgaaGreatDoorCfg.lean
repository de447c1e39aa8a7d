/- WHAT IS SAID OF THE PROGRAM beside its text: its lists' elements' types. Made by program (vc.py). -/
import Derived.Test.YtbopmiclcimjgaaGreatDoorNat
import Derived.Test.YtbopmiclcimjgaaGreatDoorRows
import Derived.Test.YtbopmiclcimjgaaGreatDoorNotateGlob
namespace Go.Proofs.YtbopmiclcimjgaaGreatDoor
open Go Go.E2 Go.E3
set_option maxRecDepth 100000
variable {sp:Nat->Option (List V->Heap->Option (CR×Heap))}
def qix:List (Nat×Nat):=[(3,1),(5,0),(9,2),(23,12),(27,4)]
def ze9:List (Nat×Nat):=[(149,23),(162,24)]
def zf4:List Nat:=[117,9]
def qyg:Nat->Option (List (PV KT))
  | 0=>some [.lit false,.lit false,.lit false,.lit false,.lit false,.lit false,.lit false,.lit false,.lit false,.lit false,.lit false,.lit false,.lit true,.lit true,.lit true,.lit true,.lit false,.lit false,.lit false,.lit false,.lit false,.lit false,.lit false,.lit false,.lit true,.lit false,.lit false,.lit false,.lit false,.lit false,.lit false,.lit false,.lit false,.lit false,.lit false,.lit false,.lit false,.lit false,.lit false,.lit false,.lit false,.lit false,.lit false,.lit false,.lit false,.lit false,.lit false,.lit false,.lit false,.lit true,.lit true,.lit true,.lit true,.lit true,.lit true,.lit false,.lit false,.lit false,.lit false,.lit false,.lit false,.lit false,.lit false,.lit false,.lit false,.lit false,.lit false,.lit true,.lit true,.lit false,.lit false,.lit false,.lit false,.lit false,.lit false,.lit false,.lit false,.lit false,.lit false,.lit false,.lit false,.lit true,.lit true,.lit false,.lit false,.lit false,.lit false,.lit false,.lit false,.lit false,.lit false,.lit false,.lit false,.lit false,.lit false,.lit true,.lit false,.lit false,.lit false,.lit false,.lit false,.lit false,.lit false,.lit false,.lit false,.lit true,.lit false,.lit false,.lit false,.lit false,.lit false,.lit false,.lit false,.lit false,.lit false,.lit false,.lit false,.lit false,.lit false,.lit false,.lit false,.lit false,.lit false,.lit false,.lit false,.lit false,.lit false,.lit false,.lit false,.lit true,.lit false,.lit false,.lit false,.lit false,.lit false,.lit false,.lit false,.lit false,.lit false,.lit false,.lit false,.lit false,.lit false,.lit false,.lit false,.lit false,.lit false,.lit false,.lit false,.lit false,.lit false,.lit false,.lit false,.lit false,.lit false,.lit false]
  | _=>none
noncomputable def cfg (sp:Nat->Option (List V->Heap->Option (CR×Heap))):Cfg Int Bool (List UInt8) Prop (fun c=>List (KT c)):={E:=qt Tryz.prog sp,qx:=qyg,codec:=Go.E3.look qix,ann:=fun _ _=>none,ans:=fun f=>zf4.any fun g=>Nat.beq g f,ng:=7,prim:=fun f=>Nat.beq f 35,gobj:=Go.E3.look notateAwake.qx,mcod:=Go.E3.look ze9}
theorem zfi:((qt Tryz.prog sp).types 3).map (·.size)=some 1:=by kernel_rfl
theorem zfj:((qt Tryz.prog sp).types 5).map (·.size)=some 1:=by kernel_rfl
theorem zfk:((qt Tryz.prog sp).types 9).map (·.size)=some 1:=by kernel_rfl
theorem zea:((qt Tryz.prog sp).types 23).map (·.size)=some 4:=by kernel_rfl
theorem zeb:((qt Tryz.prog sp).types 27).map (·.size)=some 17:=by kernel_rfl
theorem qag:CfgOk XK szK (cfg sp):=by
  have mem:∀ e c,Go.E3.look qix e=some c->(e,c) ∈ qix:=fun e c h=>qc8 h
  refine ⟨zf6,fun e c h=>?_,fun e c ti h ht=>?_,fun e e' c h h'=>?_,zf9,fun _=>rfl,zd4⟩
  . have:=mem e c h
    simp only [qix,List.mem_cons,Prod.mk.injEq,List.not_mem_nil,or_false] at this
    rcases this with ⟨rfl,rfl⟩ | ⟨rfl,rfl⟩ | ⟨rfl,rfl⟩ | ⟨rfl,rfl⟩ | ⟨rfl,rfl⟩<;>exact Nat.lt_of_lt_of_le Nat.zero_lt_one (by decide)
  . have:=mem e c h
    simp only [qix,List.mem_cons,Prod.mk.injEq,List.not_mem_nil,or_false] at this
    rcases this with ⟨rfl,rfl⟩ | ⟨rfl,rfl⟩ | ⟨rfl,rfl⟩ | ⟨rfl,rfl⟩ | ⟨rfl,rfl⟩
    . have:=zfi (sp:=sp)
      have ht':(qt Tryz.prog sp).types 3=some ti:=ht
      rw [ht'] at this
      exact Option.some.inj this
    . have:=zfj (sp:=sp)
      have ht':(qt Tryz.prog sp).types 5=some ti:=ht
      rw [ht'] at this
      exact Option.some.inj this
    . have:=zfk (sp:=sp)
      have ht':(qt Tryz.prog sp).types 9=some ti:=ht
      rw [ht'] at this
      exact Option.some.inj this
    . have:=zea (sp:=sp)
      have ht':(qt Tryz.prog sp).types 23=some ti:=ht
      rw [ht'] at this
      exact Option.some.inj this
    . have:=zeb (sp:=sp)
      have ht':(qt Tryz.prog sp).types 27=some ti:=ht
      rw [ht'] at this
      exact Option.some.inj this
  . have key:∀ x ∈ qix,∀ y ∈ qix,x.2=y.2->x.1=y.1:=by decide
    exact key _ (mem e c h) _ (mem e' c h') rfl
theorem kf:CfgOk2 XK (cfg sp):=by
  refine ⟨zd5,fun gn ps h p hp=>?_⟩
  have h':qyg gn=some ps:=h
  unfold qyg at h'
  split at h'
  . cases h'
    exact qy rfl p hp
  . cases h'
end Go.Proofs.YtbopmiclcimjgaaGreatDoor
