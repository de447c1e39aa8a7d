import Derived.Test.YtpbliaccnbgapaaGreatDoorNat
import Derived.Test.YtpbliaccnbgapaaGreatDoorRows
import Derived.Test.YtpbliaccnbgapaaGreatDoorEventKnownGlob
namespace Go.Proofs.YtpbliaccnbgapaaGreatDoor
open Go Go.E2 Go.E3
set_option maxRecDepth 100000
variable {sp:Nat->Option (List V->Heap->Option (CR×Heap))}
def qle:List (Nat×Nat):=[(3,1),(5,0),(9,2),(39,9),(43,11),(79,6),(81,5)]
def zqv:List (Nat×Nat):=[]
def zsm:List Nat:=[26,12]
def zgl:Nat->Option (List (PV KT))
  | _=>none
noncomputable def cfg (sp:Nat->Option (List V->Heap->Option (CR×Heap))):Cfg Int Bool ZB Prop (fun c=>List (KT c)):={E:=qo Tryz.prog sp,qy:=zgl,codec:=Go.E3.look qle,ann:=fun _ _=>none,ans:=fun f=>zsm.any fun g=>Nat.beq g f,ng:=9,prim:=fun f=>Nat.beq f 28,gobj:=Go.E3.look eventKnown.qy,mcod:=Go.E3.look zqv}
theorem zr9:((qo Tryz.prog sp).types 3).map (·.size)=some 1:=by kernel_rfl
theorem zsa:((qo Tryz.prog sp).types 5).map (·.size)=some 1:=by kernel_rfl
theorem zay:((qo Tryz.prog sp).types 9).map (·.size)=some 1:=by kernel_rfl
theorem zpr:((qo Tryz.prog sp).types 39).map (·.size)=some 2:=by kernel_rfl
theorem zps:((qo Tryz.prog sp).types 43).map (·.size)=some 10:=by kernel_rfl
theorem zpt:((qo Tryz.prog sp).types 79).map (·.size)=some 2:=by kernel_rfl
theorem zpu:((qo Tryz.prog sp).types 81).map (·.size)=some 3:=by kernel_rfl
theorem qal:CfgOk XK szK (cfg sp):=by
  have mem:∀ e c,Go.E3.look qle e=some c->(e,c) ∈ qle:=fun e c h=>qeg h
  refine ⟨zsn,fun e c h=>?_,fun e c ti h ht=>?_,fun e e' c h h'=>?_,zsr,fun _=>rfl,zpg⟩
  . have:=mem e c h
    simp only [qle,zD,zP,List.not_mem_nil,or_false] at this
    rcases this with ⟨rfl,rfl⟩ | ⟨rfl,rfl⟩ | ⟨rfl,rfl⟩ | ⟨rfl,rfl⟩ | ⟨rfl,rfl⟩ | ⟨rfl,rfl⟩ | ⟨rfl,rfl⟩<;>exact zL Nat.zero_lt_one (by decide)
  . have:=mem e c h
    simp only [qle,zD,zP,List.not_mem_nil,or_false] at this
    rcases this with ⟨rfl,rfl⟩ | ⟨rfl,rfl⟩ | ⟨rfl,rfl⟩ | ⟨rfl,rfl⟩ | ⟨rfl,rfl⟩ | ⟨rfl,rfl⟩ | ⟨rfl,rfl⟩
    . have:=zr9 (sp:=sp)
      have ht':(qo Tryz.prog sp).types 3=some ti:=ht
      rw [ht'] at this
      exact Option.some.inj this
    . have:=zsa (sp:=sp)
      have ht':(qo Tryz.prog sp).types 5=some ti:=ht
      rw [ht'] at this
      exact Option.some.inj this
    . have:=zay (sp:=sp)
      have ht':(qo Tryz.prog sp).types 9=some ti:=ht
      rw [ht'] at this
      exact Option.some.inj this
    . have:=zpr (sp:=sp)
      have ht':(qo Tryz.prog sp).types 39=some ti:=ht
      rw [ht'] at this
      exact Option.some.inj this
    . have:=zps (sp:=sp)
      have ht':(qo Tryz.prog sp).types 43=some ti:=ht
      rw [ht'] at this
      exact Option.some.inj this
    . have:=zpt (sp:=sp)
      have ht':(qo Tryz.prog sp).types 79=some ti:=ht
      rw [ht'] at this
      exact Option.some.inj this
    . have:=zpu (sp:=sp)
      have ht':(qo Tryz.prog sp).types 81=some ti:=ht
      rw [ht'] at this
      exact Option.some.inj this
  . have key:∀ x ∈ qle,∀ y ∈ qle,x.2=y.2->x.1=y.1:=by decide
    exact key _ (mem e c h) _ (mem e' c h') rfl
theorem ku:CfgOk2 XK (cfg sp):=by
  refine ⟨zpl,fun gn ps h p hp=>?_⟩
  have h':zgl gn=some ps:=h
  unfold zgl at h'
  split at h'
  . cases h'
end Go.Proofs.YtpbliaccnbgapaaGreatDoor
