import Derived.Test.YtcnoipglgpkpeaaGreatDoorNat
import Derived.Test.YtcnoipglgpkpeaaGreatDoorRows
import Derived.Test.YtcnoipglgpkpeaaGreatDoorCanonAwakeGlob
namespace Go.Proofs.YtcnoipglgpkpeaaGreatDoor
open Go Go.E2 Go.E3
set_option maxRecDepth 100000
variable {sp:Nat->Option (List V->Heap->Option (CR×Heap))}
def qm3:List (Nat×Nat):=[(3,1),(5,0),(9,2),(26,9),(30,25),(38,11)]
def zlf:List (Nat×Nat):=[]
def zmv:List Nat:=[10]
def q11:Nat->Option (List (PV KT))
  | 0=>some [.int .i64 (some 0) 0,.int .i64 (some 2) 2,.int .i64 (some 4) 4,.int .i64 (some 5) 5,.int .i64 (some 7) 7,.int .i64 (some 9) 9,.int .i64 (some 11) 11]
  | _=>none
noncomputable def cfg (sp:Nat->Option (List V->Heap->Option (CR×Heap))):Cfg Int Bool ZB Prop (fun c=>List (KT c)):={E:=qq Tryz.prog sp,qt:=q11,codec:=Go.E3.look qm3,ann:=fun _ _=>none,ans:=fun f=>zmv.any fun g=>Nat.beq g f,ng:=4,prim:=fun _=>false,gobj:=Go.E3.look canonAwake.qt,mcod:=Go.E3.look zlf,born:=fun t=>[23].any fun u=>Nat.beq u t,keepM:=fun f=>[45].any fun u=>Nat.beq u f}
theorem zmh:((qq Tryz.prog sp).types 3).map (·.size)=some 1:=by kernel_rfl
theorem zmi:((qq Tryz.prog sp).types 5).map (·.size)=some 1:=by kernel_rfl
theorem zmj:((qq Tryz.prog sp).types 9).map (·.size)=some 1:=by kernel_rfl
theorem zkb:((qq Tryz.prog sp).types 26).map (·.size)=some 2:=by kernel_rfl
theorem zkc:((qq Tryz.prog sp).types 30).map (·.size)=some 11:=by kernel_rfl
theorem zkd:((qq Tryz.prog sp).types 38).map (·.size)=some 10:=by kernel_rfl
theorem jo:CfgOk XK szK (cfg sp):=by
  have mem:∀ e c,Go.E3.look qm3 e=some c->(e,c) ∈ qm3:=fun e c h=>qe4 h
  refine ⟨zmz,fun e c h=>?_,fun e c ti h ht=>?_,fun e e' c h h'=>?_,zm1,fun _=>rfl,zj4⟩
  . have:=mem e c h
    simp only [qm3,zD,zP,List.not_mem_nil,or_false] at this
    rcases this with ⟨rfl,rfl⟩ | ⟨rfl,rfl⟩ | ⟨rfl,rfl⟩ | ⟨rfl,rfl⟩ | ⟨rfl,rfl⟩ | ⟨rfl,rfl⟩<;>exact zL Nat.zero_lt_one (by decide)
  . have:=mem e c h
    simp only [qm3,zD,zP,List.not_mem_nil,or_false] at this
    rcases this with ⟨rfl,rfl⟩ | ⟨rfl,rfl⟩ | ⟨rfl,rfl⟩ | ⟨rfl,rfl⟩ | ⟨rfl,rfl⟩ | ⟨rfl,rfl⟩
    . have:=zmh (sp:=sp)
      have ht':(qq Tryz.prog sp).types 3=some ti:=ht
      rw [ht'] at this
      exact Option.some.inj this
    . have:=zmi (sp:=sp)
      have ht':(qq Tryz.prog sp).types 5=some ti:=ht
      rw [ht'] at this
      exact Option.some.inj this
    . have:=zmj (sp:=sp)
      have ht':(qq Tryz.prog sp).types 9=some ti:=ht
      rw [ht'] at this
      exact Option.some.inj this
    . have:=zkb (sp:=sp)
      have ht':(qq Tryz.prog sp).types 26=some ti:=ht
      rw [ht'] at this
      exact Option.some.inj this
    . have:=zkc (sp:=sp)
      have ht':(qq Tryz.prog sp).types 30=some ti:=ht
      rw [ht'] at this
      exact Option.some.inj this
    . have:=zkd (sp:=sp)
      have ht':(qq Tryz.prog sp).types 38=some ti:=ht
      rw [ht'] at this
      exact Option.some.inj this
  . have key:∀ x ∈ qm3,∀ y ∈ qm3,x.2=y.2->x.1=y.1:=by decide
    exact key _ (mem e c h) _ (mem e' c h') rfl
theorem kh:CfgOk2 XK (cfg sp):=by
  refine ⟨zj5,fun gn ps h p hp=>?_⟩
  have h':q11 gn=some ps:=h
  unfold q11 at h'
  split at h'
  . cases h'
    exact qx rfl p hp
  . cases h'
end Go.Proofs.YtcnoipglgpkpeaaGreatDoor
