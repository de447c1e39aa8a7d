import Derived.Test.YtpgchdcifbaioaaGreatDoorNat
import Derived.Test.YtpgchdcifbaioaaGreatDoorRows
import Derived.Test.YtpgchdcifbaioaaGreatDoorBookAwakeGlob
namespace Go.Proofs.YtpgchdcifbaioaaGreatDoor
open Go Go.E2 Go.E3
set_option maxRecDepth 100000
variable {sp:Nat->Option (List V->Heap->Option (CR×Heap))}
def qp6:List (Nat×Nat):=[(3,1),(4,3),(5,0),(9,2),(38,8),(41,7),(60,4),(157,10)]
def z67:List (Nat×Nat):=[(173,23),(193,24)]
def z8s:List Nat:=[17,61,19,5]
def zcs:Nat->Option (List (PV KT))
  | 0=>some ([0,0,0,0,0,0,0,0,0,0,0,0,1,1,1,1,0,0,0,0,0,0,0,0,1,0,0,0,0,0,0,0,0,0,0,0,0,0,0,0,0,0,0,0,0,0,0,0,0,1,1,1,1,1,1,0,0,0,0,0,0,0,0,0,0,0,0,1,1,0,0,0,0,0,0,0,0,0,0,0,0,1,1,0,0,0,0,0,0,0,0,0,0,0,0,1,0,0,0,0,0,0,0,0,0,1,0,0,0,0,0,0,0,0,0,0,0,0,0,0,0,0,0,0,0,0,0,0,0,1,0,0,0,0,0,0,0,0,0,0,0,0,0,0,0,0,0,0,0,0,0,0,0,0,0,0].map λn:Nat=>.lit (Nat.beq n 1))
  | _=>none
noncomputable def cfg (sp:Nat->Option (List V->Heap->Option (CR×Heap))):Cfg Int Bool ZB Prop (λc=>List (KT c)):={E:=zr Tryz.prog sp,zm:=zcs,codec:=Go.E3.look qp6,ann:=λ_ _=>none,ans:=λf=>z8s.any λg=>Nat.beq g f,ng:=7,prim:=λf=>Nat.beq f 48,gobj:=Go.E3.look bookAwake.zm,mcod:=Go.E3.look z67,born:=λt=>[22].any λu=>Nat.beq u t}
theorem z7t:((zr Tryz.prog sp).types 3).map (·.size)=some 1:=by kernel_rfl
theorem z7u:((zr Tryz.prog sp).types 4).map (·.size)=some 1:=by kernel_rfl
theorem z7v:((zr Tryz.prog sp).types 5).map (·.size)=some 1:=by kernel_rfl
theorem z7w:((zr Tryz.prog sp).types 9).map (·.size)=some 1:=by kernel_rfl
theorem z5o:((zr Tryz.prog sp).types 38).map (·.size)=some 1:=by kernel_rfl
theorem z5p:((zr Tryz.prog sp).types 41).map (·.size)=some 4:=by kernel_rfl
theorem z5q:((zr Tryz.prog sp).types 60).map (·.size)=some 17:=by kernel_rfl
theorem z08:((zr Tryz.prog sp).types 157).map (·.size)=some 2:=by kernel_rfl
theorem zz:CfgOk XK szK (cfg sp):=by
  have b:∀ e c,Go.E3.look qp6 e=some c->(e,c) ∈ qp6:=λe c h=>qez h;refine ⟨z81,λe c h=>?_,λe c ti h d=>?_,λe g c h i=>?_,z9e,λ_=>rfl,z4x⟩
  . have:=b e c h
    simp only [qp6,zD,zP,List.not_mem_nil,or_false] at this;rcases this with ⟨rfl,rfl⟩ | ⟨rfl,rfl⟩ | ⟨rfl,rfl⟩ | ⟨rfl,rfl⟩ | ⟨rfl,rfl⟩ | ⟨rfl,rfl⟩ | ⟨rfl,rfl⟩ | ⟨rfl,rfl⟩<;>exact zL Nat.zero_lt_one (by decide)
  . have:=b e c h
    simp only [qp6,zD,zP,List.not_mem_nil,or_false] at this;rcases this with ⟨rfl,rfl⟩ | ⟨rfl,rfl⟩ | ⟨rfl,rfl⟩ | ⟨rfl,rfl⟩ | ⟨rfl,rfl⟩ | ⟨rfl,rfl⟩ | ⟨rfl,rfl⟩ | ⟨rfl,rfl⟩
    . have:=z7t (sp:=sp)
      have a:(zr Tryz.prog sp).types 3=some ti:=d;rw [a] at this;exact Option.some.inj this
    . have:=z7u (sp:=sp)
      have a:(zr Tryz.prog sp).types 4=some ti:=d;rw [a] at this;exact Option.some.inj this
    . have:=z7v (sp:=sp)
      have a:(zr Tryz.prog sp).types 5=some ti:=d;rw [a] at this;exact Option.some.inj this
    . have:=z7w (sp:=sp)
      have a:(zr Tryz.prog sp).types 9=some ti:=d;rw [a] at this;exact Option.some.inj this
    . have:=z5o (sp:=sp)
      have a:(zr Tryz.prog sp).types 38=some ti:=d;rw [a] at this;exact Option.some.inj this
    . have:=z5p (sp:=sp)
      have a:(zr Tryz.prog sp).types 41=some ti:=d;rw [a] at this;exact Option.some.inj this
    . have:=z5q (sp:=sp)
      have a:(zr Tryz.prog sp).types 60=some ti:=d;rw [a] at this;exact Option.some.inj this
    . have:=z08 (sp:=sp)
      have a:(zr Tryz.prog sp).types 157=some ti:=d;rw [a] at this;exact Option.some.inj this
  . have f:∀ x ∈ qp6,∀ y ∈ qp6,x.2=y.2->x.1=y.1:=by decide
    exact f _ (b e c h) _ (b g c i) rfl
theorem zi:CfgOk2 XK (cfg sp):=by
  refine ⟨z41,λgn ps h p b=>?_⟩;have a:zcs gn=some ps:=h;unfold zcs at a;split at a
  . cases a
    exact qf rfl p b
  . cases a
end Go.Proofs.YtpgchdcifbaioaaGreatDoor
