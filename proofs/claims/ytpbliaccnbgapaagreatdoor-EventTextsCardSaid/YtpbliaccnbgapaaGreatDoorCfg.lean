import Derived.Test.YtpbliaccnbgapaaGreatDoorNat
import Derived.Test.YtpbliaccnbgapaaGreatDoorRows
import Derived.Test.YtpbliaccnbgapaaGreatDoorEventGlob
namespace Go.Proofs.YtpbliaccnbgapaaGreatDoor
open Go Go.E2 Go.E3
set_option maxRecDepth 100000
variable {sp:Nat->Option (List V->Heap->Option (CR×Heap))}
def qlo:List (Nat×Nat):=[(3,1),(5,0),(9,2),(39,9),(43,11),(79,6),(81,5)]
def zp1:List (Nat×Nat):=[]
def zqn:List Nat:=[26,5]
def zg9:Nat->Option (List (PV KT))
  | _=>none
noncomputable def cfg (sp:Nat->Option (List V->Heap->Option (CR×Heap))):Cfg Int Bool ZB Prop (fun c=>List (KT c)):={E:=zf Tryz.prog sp,zh:=zg9,codec:=Go.E3.look qlo,ann:=fun _ _=>none,ans:=fun f=>zqn.any fun g=>Nat.beq g f,ng:=9,prim:=fun f=>Nat.beq f 28,gobj:=Go.E3.look eventAwake.zh,mcod:=Go.E3.look zp1}
theorem zqc:((zf Tryz.prog sp).types 3).map (·.size)=some 1:=by kernel_rfl
theorem zqd:((zf Tryz.prog sp).types 5).map (·.size)=some 1:=by kernel_rfl
theorem zbh:((zf Tryz.prog sp).types 9).map (·.size)=some 1:=by kernel_rfl
theorem zo4:((zf Tryz.prog sp).types 39).map (·.size)=some 2:=by kernel_rfl
theorem zo5:((zf Tryz.prog sp).types 43).map (·.size)=some 10:=by kernel_rfl
theorem zo6:((zf Tryz.prog sp).types 79).map (·.size)=some 2:=by kernel_rfl
theorem zo7:((zf Tryz.prog sp).types 81).map (·.size)=some 3:=by kernel_rfl
theorem jc:CfgOk XK szK (cfg sp):=by
  have mem:∀ e c,Go.E3.look qlo e=some c->(e,c) ∈ qlo:=fun e c h=>qek h
  refine ⟨zqp,fun e c h=>?_,fun e c ti h ht=>?_,fun e e' c h h'=>?_,zqr,fun _=>rfl,zoy⟩
  . have:=mem e c h
    simp only [qlo,zD,zP,List.not_mem_nil,or_false] at this
    rcases this with ⟨rfl,rfl⟩ | ⟨rfl,rfl⟩ | ⟨rfl,rfl⟩ | ⟨rfl,rfl⟩ | ⟨rfl,rfl⟩ | ⟨rfl,rfl⟩ | ⟨rfl,rfl⟩<;>exact zL Nat.zero_lt_one (by decide)
  . have:=mem e c h
    simp only [qlo,zD,zP,List.not_mem_nil,or_false] at this
    rcases this with ⟨rfl,rfl⟩ | ⟨rfl,rfl⟩ | ⟨rfl,rfl⟩ | ⟨rfl,rfl⟩ | ⟨rfl,rfl⟩ | ⟨rfl,rfl⟩ | ⟨rfl,rfl⟩
    . have:=zqc (sp:=sp)
      have ht':(zf Tryz.prog sp).types 3=some ti:=ht
      rw [ht'] at this
      exact Option.some.inj this
    . have:=zqd (sp:=sp)
      have ht':(zf Tryz.prog sp).types 5=some ti:=ht
      rw [ht'] at this
      exact Option.some.inj this
    . have:=zbh (sp:=sp)
      have ht':(zf Tryz.prog sp).types 9=some ti:=ht
      rw [ht'] at this
      exact Option.some.inj this
    . have:=zo4 (sp:=sp)
      have ht':(zf Tryz.prog sp).types 39=some ti:=ht
      rw [ht'] at this
      exact Option.some.inj this
    . have:=zo5 (sp:=sp)
      have ht':(zf Tryz.prog sp).types 43=some ti:=ht
      rw [ht'] at this
      exact Option.some.inj this
    . have:=zo6 (sp:=sp)
      have ht':(zf Tryz.prog sp).types 79=some ti:=ht
      rw [ht'] at this
      exact Option.some.inj this
    . have:=zo7 (sp:=sp)
      have ht':(zf Tryz.prog sp).types 81=some ti:=ht
      rw [ht'] at this
      exact Option.some.inj this
  . have key:∀ x ∈ qlo,∀ y ∈ qlo,x.2=y.2->x.1=y.1:=by decide
    exact key _ (mem e c h) _ (mem e' c h') rfl
theorem zq:CfgOk2 XK (cfg sp):=by
  refine ⟨zoz,fun gn ps h p hp=>?_⟩
  have h':zg9 gn=some ps:=h
  unfold zg9 at h'
  split at h'
  . cases h'
end Go.Proofs.YtpbliaccnbgapaaGreatDoor
