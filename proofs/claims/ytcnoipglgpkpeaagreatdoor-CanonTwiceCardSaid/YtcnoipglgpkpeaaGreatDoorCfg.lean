import Derived.Test.YtcnoipglgpkpeaaGreatDoorNat
import Derived.Test.YtcnoipglgpkpeaaGreatDoorRows
import Derived.Test.YtcnoipglgpkpeaaGreatDoorCanonAwakeGlob
namespace Go.Proofs.YtcnoipglgpkpeaaGreatDoor
open Go Go.E2 Go.E3
set_option maxRecDepth 100000
variable {sp:Nat->Option (List V->Heap->Option (CR×Heap))}
def qlu:List (Nat×Nat):=[(3,1),(5,0),(9,2),(26,9),(38,11)]
def zga:List (Nat×Nat):=[]
def zho:List Nat:=[10]
def q8n:Nat->Option (List (PV KT))
  | _=>none
noncomputable def cfg (sp:Nat->Option (List V->Heap->Option (CR×Heap))):Cfg Int Bool ZB Prop (fun c=>List (KT c)):={E:=qq Tryz.prog sp,qw:=q8n,codec:=Go.E3.look qlu,ann:=fun _ _=>none,ans:=fun f=>zho.any fun g=>Nat.beq g f,ng:=4,prim:=fun _=>false,gobj:=Go.E3.look canonAwake.qw,mcod:=Go.E3.look zga,born:=fun t=>[23].any fun u=>Nat.beq u t,keepM:=fun f=>[45].any fun u=>Nat.beq u f}
theorem zhc:((qq Tryz.prog sp).types 3).map (·.size)=some 1:=by kernel_rfl
theorem zhd:((qq Tryz.prog sp).types 5).map (·.size)=some 1:=by kernel_rfl
theorem zhe:((qq Tryz.prog sp).types 9).map (·.size)=some 1:=by kernel_rfl
theorem zfd:((qq Tryz.prog sp).types 26).map (·.size)=some 2:=by kernel_rfl
theorem zfe:((qq Tryz.prog sp).types 38).map (·.size)=some 10:=by kernel_rfl
theorem qau:CfgOk XK szK (cfg sp):=by
  have mem:∀ e c,Go.E3.look qlu e=some c->(e,c) ∈ qlu:=fun e c h=>qeg h
  refine ⟨zhq,fun e c h=>?_,fun e c ti h ht=>?_,fun e e' c h h'=>?_,zhs,fun _=>rfl,ze6⟩
  . have:=mem e c h
    simp only [qlu,zD,zP,List.not_mem_nil,or_false] at this
    rcases this with ⟨rfl,rfl⟩ | ⟨rfl,rfl⟩ | ⟨rfl,rfl⟩ | ⟨rfl,rfl⟩ | ⟨rfl,rfl⟩<;>exact zL Nat.zero_lt_one (by decide)
  . have:=mem e c h
    simp only [qlu,zD,zP,List.not_mem_nil,or_false] at this
    rcases this with ⟨rfl,rfl⟩ | ⟨rfl,rfl⟩ | ⟨rfl,rfl⟩ | ⟨rfl,rfl⟩ | ⟨rfl,rfl⟩
    . have:=zhc (sp:=sp)
      have ht':(qq Tryz.prog sp).types 3=some ti:=ht
      rw [ht'] at this
      exact Option.some.inj this
    . have:=zhd (sp:=sp)
      have ht':(qq Tryz.prog sp).types 5=some ti:=ht
      rw [ht'] at this
      exact Option.some.inj this
    . have:=zhe (sp:=sp)
      have ht':(qq Tryz.prog sp).types 9=some ti:=ht
      rw [ht'] at this
      exact Option.some.inj this
    . have:=zfd (sp:=sp)
      have ht':(qq Tryz.prog sp).types 26=some ti:=ht
      rw [ht'] at this
      exact Option.some.inj this
    . have:=zfe (sp:=sp)
      have ht':(qq Tryz.prog sp).types 38=some ti:=ht
      rw [ht'] at this
      exact Option.some.inj this
  . have key:∀ x ∈ qlu,∀ y ∈ qlu,x.2=y.2->x.1=y.1:=by decide
    exact key _ (mem e c h) _ (mem e' c h') rfl
theorem jd:CfgOk2 XK (cfg sp):=by
  refine ⟨ze7,fun gn ps h p hp=>?_⟩
  have h':q8n gn=some ps:=h
  unfold q8n at h'
  split at h'
  . cases h'
end Go.Proofs.YtcnoipglgpkpeaaGreatDoor
