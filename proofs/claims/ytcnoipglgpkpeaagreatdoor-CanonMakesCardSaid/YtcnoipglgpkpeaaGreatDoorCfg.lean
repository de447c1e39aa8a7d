import Derived.Test.YtcnoipglgpkpeaaGreatDoorNat
import Derived.Test.YtcnoipglgpkpeaaGreatDoorRows
import Derived.Test.YtcnoipglgpkpeaaGreatDoorCanonAwakeGlob
namespace Go.Proofs.YtcnoipglgpkpeaaGreatDoor
open Go Go.E2 Go.E3
set_option maxRecDepth 100000
variable {sp:Nat->Option (List V->Heap->Option (CR×Heap))}
def qnv:List (Nat×Nat):=[(3,1),(5,0),(9,2),(26,9),(30,25),(38,11)]
def zq7:List (Nat×Nat):=[]
def zsf:List Nat:=[10]
def q46:Nat->Option (List (PV KT))
  | 0=>some [.int .i64 (some 0) 0,.int .i64 (some 2) 2,.int .i64 (some 4) 4,.int .i64 (some 5) 5,.int .i64 (some 7) 7,.int .i64 (some 9) 9,.int .i64 (some 11) 11]
  | _=>none
noncomputable def cfg (sp:Nat->Option (List V->Heap->Option (CR×Heap))):Cfg Int Bool ZB Prop (fun c=>List (KT c)):={E:=qy Tryz.prog sp,zb:=q46,codec:=Go.E3.look qnv,ann:=fun _ _=>none,ans:=fun f=>zsf.any fun g=>Nat.beq g f,ng:=4,prim:=fun _=>false,gobj:=Go.E3.look canonAwake.zb,mcod:=Go.E3.look zq7,born:=fun t=>[23].any fun u=>Nat.beq u t,keepM:=fun f=>[45].any fun u=>Nat.beq u f}
theorem zr2:((qy Tryz.prog sp).types 3).map (·.size)=some 1:=by kernel_rfl
theorem zr3:((qy Tryz.prog sp).types 5).map (·.size)=some 1:=by kernel_rfl
theorem zr4:((qy Tryz.prog sp).types 9).map (·.size)=some 1:=by kernel_rfl
theorem zp9:((qy Tryz.prog sp).types 26).map (·.size)=some 2:=by kernel_rfl
theorem zqa:((qy Tryz.prog sp).types 30).map (·.size)=some 11:=by kernel_rfl
theorem zqb:((qy Tryz.prog sp).types 38).map (·.size)=some 10:=by kernel_rfl
theorem zw:CfgOk XK szK (cfg sp):=by
  have mem:∀ e c,Go.E3.look qnv e=some c->(e,c) ∈ qnv:=fun e c h=>qfh h
  refine ⟨zsh,fun e c h=>?_,fun e c ti h ht=>?_,fun e e' c h h'=>?_,zsj,fun _=>rfl,zp3⟩
  . have:=mem e c h
    simp only [qnv,zD,zP,List.not_mem_nil,or_false] at this
    rcases this with ⟨rfl,rfl⟩ | ⟨rfl,rfl⟩ | ⟨rfl,rfl⟩ | ⟨rfl,rfl⟩ | ⟨rfl,rfl⟩ | ⟨rfl,rfl⟩<;>exact zL Nat.zero_lt_one (by decide)
  . have:=mem e c h
    simp only [qnv,zD,zP,List.not_mem_nil,or_false] at this
    rcases this with ⟨rfl,rfl⟩ | ⟨rfl,rfl⟩ | ⟨rfl,rfl⟩ | ⟨rfl,rfl⟩ | ⟨rfl,rfl⟩ | ⟨rfl,rfl⟩
    . have:=zr2 (sp:=sp)
      have ht':(qy Tryz.prog sp).types 3=some ti:=ht
      rw [ht'] at this
      exact Option.some.inj this
    . have:=zr3 (sp:=sp)
      have ht':(qy Tryz.prog sp).types 5=some ti:=ht
      rw [ht'] at this
      exact Option.some.inj this
    . have:=zr4 (sp:=sp)
      have ht':(qy Tryz.prog sp).types 9=some ti:=ht
      rw [ht'] at this
      exact Option.some.inj this
    . have:=zp9 (sp:=sp)
      have ht':(qy Tryz.prog sp).types 26=some ti:=ht
      rw [ht'] at this
      exact Option.some.inj this
    . have:=zqa (sp:=sp)
      have ht':(qy Tryz.prog sp).types 30=some ti:=ht
      rw [ht'] at this
      exact Option.some.inj this
    . have:=zqb (sp:=sp)
      have ht':(qy Tryz.prog sp).types 38=some ti:=ht
      rw [ht'] at this
      exact Option.some.inj this
  . have key:∀ x ∈ qnv,∀ y ∈ qnv,x.2=y.2->x.1=y.1:=by decide
    exact key _ (mem e c h) _ (mem e' c h') rfl
theorem zk:CfgOk2 XK (cfg sp):=by
  refine ⟨zp4,fun gn ps h p hp=>?_⟩
  have h':q46 gn=some ps:=h
  unfold q46 at h'
  split at h'
  . cases h'
    exact qj rfl p hp
  . cases h'
end Go.Proofs.YtcnoipglgpkpeaaGreatDoor
