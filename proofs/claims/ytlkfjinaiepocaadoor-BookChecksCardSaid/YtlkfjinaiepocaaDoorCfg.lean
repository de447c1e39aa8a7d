/- WHAT IS SAID OF THE PROGRAM beside its text: its lists' elements' types. Made by program (vc.py). -/
import Derived.Test.YtlkfjinaiepocaaDoorNat
import Derived.Test.YtlkfjinaiepocaaDoorRows
import Derived.Test.YtlkfjinaiepocaaDoorBookGlob
namespace Go.Proofs.YtlkfjinaiepocaaDoor
open Go Go.E2 Go.E3
set_option maxRecDepth 100000
variable {sp:Nat->Option (List V->Heap->Option (CR×Heap))}
def qn5:List (Nat×Nat):=[(3,1),(4,3),(5,0),(56,8),(58,7),(65,4),(86,10)]
def zkn:List (Nat×Nat):=[]
def zle:List Nat:=[8]
def q2t:Nat->Option (List (PV KT))
  | 0=>some [.lit false,.lit false,.lit false,.lit false,.lit false,.lit false,.lit false,.lit false,.lit false,.lit false,.lit false,.lit false,.lit true,.lit true,.lit true,.lit true,.lit false,.lit false,.lit false,.lit false,.lit false,.lit false,.lit false,.lit false,.lit true,.lit false,.lit false,.lit false,.lit false,.lit false,.lit false,.lit false,.lit false,.lit false,.lit false,.lit false,.lit false,.lit false,.lit false,.lit false,.lit false,.lit false,.lit false,.lit false,.lit false,.lit false,.lit false,.lit false,.lit false,.lit true,.lit true,.lit true,.lit true,.lit true,.lit true,.lit false,.lit false,.lit false,.lit false,.lit false,.lit false,.lit false,.lit false,.lit false,.lit false,.lit false,.lit false,.lit true,.lit true,.lit false,.lit false,.lit false,.lit false,.lit false,.lit false,.lit false,.lit false,.lit false,.lit false,.lit false,.lit false,.lit true,.lit true,.lit false,.lit false,.lit false,.lit false,.lit false,.lit false,.lit false,.lit false,.lit false,.lit false,.lit false,.lit false,.lit true,.lit false,.lit false,.lit false,.lit false,.lit false,.lit false,.lit false,.lit false,.lit false,.lit true,.lit false,.lit false,.lit false,.lit false,.lit false,.lit false,.lit false,.lit false,.lit false,.lit false,.lit false,.lit false,.lit false,.lit false,.lit false,.lit false,.lit false,.lit false,.lit false,.lit false,.lit false,.lit false,.lit false,.lit true,.lit false,.lit false,.lit false,.lit false,.lit false,.lit false,.lit false,.lit false,.lit false,.lit false,.lit false,.lit false,.lit false,.lit false,.lit false,.lit false,.lit false,.lit false,.lit false,.lit false,.lit false,.lit false,.lit false,.lit false,.lit false,.lit false]
  | _=>none
noncomputable def cfg (sp:Nat->Option (List V->Heap->Option (CR×Heap))):Cfg Int Bool ZB Prop (fun c=>List (KT c)):={E:=qy Tryd.prog sp,zd:=q2t,codec:=Go.E3.look qn5,ann:=fun _ _=>none,ans:=fun f=>zle.any fun g=>Nat.beq g f,ng:=1,prim:=fun _=>false,gobj:=Go.E3.look bookAwake.zd,mcod:=Go.E3.look zkn}
theorem zkv:((qy Tryd.prog sp).types 3).map (·.size)=some 1:=by kernel_rfl
theorem zkw:((qy Tryd.prog sp).types 4).map (·.size)=some 1:=by kernel_rfl
theorem zkx:((qy Tryd.prog sp).types 5).map (·.size)=some 1:=by kernel_rfl
theorem zj0:((qy Tryd.prog sp).types 56).map (·.size)=some 1:=by kernel_rfl
theorem zj1:((qy Tryd.prog sp).types 58).map (·.size)=some 4:=by kernel_rfl
theorem zj2:((qy Tryd.prog sp).types 65).map (·.size)=some 17:=by kernel_rfl
theorem zj3:((qy Tryd.prog sp).types 86).map (·.size)=some 2:=by kernel_rfl
theorem kx:CfgOk XK szK (cfg sp):=by
  have mem:∀ e c,Go.E3.look qn5 e=some c->(e,c) ∈ qn5:=fun e c h=>qdl h
  refine ⟨zli,fun e c h=>?_,fun e c ti h ht=>?_,fun e e' c h h'=>?_,zlk,fun _=>rfl,zjr⟩
  . have:=mem e c h
    simp only [qn5,zD,zP,List.not_mem_nil,or_false] at this
    rcases this with ⟨rfl,rfl⟩ | ⟨rfl,rfl⟩ | ⟨rfl,rfl⟩ | ⟨rfl,rfl⟩ | ⟨rfl,rfl⟩ | ⟨rfl,rfl⟩ | ⟨rfl,rfl⟩<;>exact zL Nat.zero_lt_one (by decide)
  . have:=mem e c h
    simp only [qn5,zD,zP,List.not_mem_nil,or_false] at this
    rcases this with ⟨rfl,rfl⟩ | ⟨rfl,rfl⟩ | ⟨rfl,rfl⟩ | ⟨rfl,rfl⟩ | ⟨rfl,rfl⟩ | ⟨rfl,rfl⟩ | ⟨rfl,rfl⟩
    . have:=zkv (sp:=sp)
      have ht':(qy Tryd.prog sp).types 3=some ti:=ht
      rw [ht'] at this
      exact Option.some.inj this
    . have:=zkw (sp:=sp)
      have ht':(qy Tryd.prog sp).types 4=some ti:=ht
      rw [ht'] at this
      exact Option.some.inj this
    . have:=zkx (sp:=sp)
      have ht':(qy Tryd.prog sp).types 5=some ti:=ht
      rw [ht'] at this
      exact Option.some.inj this
    . have:=zj0 (sp:=sp)
      have ht':(qy Tryd.prog sp).types 56=some ti:=ht
      rw [ht'] at this
      exact Option.some.inj this
    . have:=zj1 (sp:=sp)
      have ht':(qy Tryd.prog sp).types 58=some ti:=ht
      rw [ht'] at this
      exact Option.some.inj this
    . have:=zj2 (sp:=sp)
      have ht':(qy Tryd.prog sp).types 65=some ti:=ht
      rw [ht'] at this
      exact Option.some.inj this
    . have:=zj3 (sp:=sp)
      have ht':(qy Tryd.prog sp).types 86=some ti:=ht
      rw [ht'] at this
      exact Option.some.inj this
  . have key:∀ x ∈ qn5,∀ y ∈ qn5,x.2=y.2->x.1=y.1:=by decide
    exact key _ (mem e c h) _ (mem e' c h') rfl
theorem zo:CfgOk2 XK (cfg sp):=by
  refine ⟨zju,fun gn ps h p hp=>?_⟩
  have h':q2t gn=some ps:=h
  unfold q2t at h'
  split at h'
  . cases h'
    exact qo rfl p hp
  . cases h'
end Go.Proofs.YtlkfjinaiepocaaDoor
