import Derived.Test.YtpdphcekmhajdaaGreatDoorNat
import Derived.Test.YtpdphcekmhajdaaGreatDoorRows
import Derived.Test.YtpdphcekmhajdaaGreatDoorBookAwakeGlob
namespace Go.Proofs.YtpdphcekmhajdaaGreatDoor
open Go Go.E2 Go.E3
set_option maxRecDepth 100000
variable {sp:Nat->Option (List V->Heap->Option (CR×Heap))}
def qoy:List (Nat×Nat):=[(3,1),(4,3),(5,0),(9,2),(46,8),(48,7),(67,4)]
def zyr:List (Nat×Nat):=[(174,23),(190,24)]
def zz2:List Nat:=[30,59,32,4]
def q8w:Nat->Option (List (PV KT))
  | 0=>some ([0,0,0,0,0,0,0,0,0,0,0,0,1,1,1,1,0,0,0,0,0,0,0,0,1,0,0,0,0,0,0,0,0,0,0,0,0,0,0,0,0,0,0,0,0,0,0,0,0,1,1,1,1,1,1,0,0,0,0,0,0,0,0,0,0,0,0,1,1,0,0,0,0,0,0,0,0,0,0,0,0,1,1,0,0,0,0,0,0,0,0,0,0,0,0,1,0,0,0,0,0,0,0,0,0,1,0,0,0,0,0,0,0,0,0,0,0,0,0,0,0,0,0,0,0,0,0,0,0,1,0,0,0,0,0,0,0,0,0,0,0,0,0,0,0,0,0,0,0,0,0,0,0,0,0,0].map λn:Nat=>.lit (Nat.beq n 1))
  | _=>none
noncomputable def cfg (sp:Nat->Option (List V->Heap->Option (CR×Heap))):Cfg Int Bool ZB Prop (λc=>List (KT c)):={E:=zj Tryz.prog sp,zf:=q8w,codec:=Go.E3.look qoy,ann:=λ_ _=>none,ans:=λf=>zz2.any λg=>Nat.beq g f,ng:=7,prim:=λf=>Nat.beq f 57,gobj:=Go.E3.look bookAwake.zf,mcod:=Go.E3.look zyr,born:=λt=>[24].any λu=>Nat.beq u t}
theorem zzc:((zj Tryz.prog sp).types 3).map (·.size)=some 1:=by kernel_rfl
theorem zzd:((zj Tryz.prog sp).types 4).map (·.size)=some 1:=by kernel_rfl
theorem zze:((zj Tryz.prog sp).types 5).map (·.size)=some 1:=by kernel_rfl
theorem zzf:((zj Tryz.prog sp).types 9).map (·.size)=some 1:=by kernel_rfl
theorem zw9:((zj Tryz.prog sp).types 46).map (·.size)=some 1:=by kernel_rfl
theorem zxa:((zj Tryz.prog sp).types 48).map (·.size)=some 4:=by kernel_rfl
theorem zxb:((zj Tryz.prog sp).types 67).map (·.size)=some 17:=by kernel_rfl
theorem qal:CfgOk XK szK (cfg sp):=by
  have b:∀ e c,Go.E3.look qoy e=some c->(e,c) ∈ qoy:=λe c h=>qfz h;refine ⟨zz6,λe c h=>?_,λe c ti h d=>?_,λe g c h i=>?_,z0k,λ_=>rfl,zwp⟩
  . have:=b e c h
    simp only [qoy,zD,zP,List.not_mem_nil,or_false] at this;rcases this with ⟨rfl,rfl⟩ | ⟨rfl,rfl⟩ | ⟨rfl,rfl⟩ | ⟨rfl,rfl⟩ | ⟨rfl,rfl⟩ | ⟨rfl,rfl⟩ | ⟨rfl,rfl⟩<;>exact zL Nat.zero_lt_one (by decide)
  . have:=b e c h
    simp only [qoy,zD,zP,List.not_mem_nil,or_false] at this;rcases this with ⟨rfl,rfl⟩ | ⟨rfl,rfl⟩ | ⟨rfl,rfl⟩ | ⟨rfl,rfl⟩ | ⟨rfl,rfl⟩ | ⟨rfl,rfl⟩ | ⟨rfl,rfl⟩
    . have:=zzc (sp:=sp)
      have a:(zj Tryz.prog sp).types 3=some ti:=d;rw [a] at this;exact Option.some.inj this
    . have:=zzd (sp:=sp)
      have a:(zj Tryz.prog sp).types 4=some ti:=d;rw [a] at this;exact Option.some.inj this
    . have:=zze (sp:=sp)
      have a:(zj Tryz.prog sp).types 5=some ti:=d;rw [a] at this;exact Option.some.inj this
    . have:=zzf (sp:=sp)
      have a:(zj Tryz.prog sp).types 9=some ti:=d;rw [a] at this;exact Option.some.inj this
    . have:=zw9 (sp:=sp)
      have a:(zj Tryz.prog sp).types 46=some ti:=d;rw [a] at this;exact Option.some.inj this
    . have:=zxa (sp:=sp)
      have a:(zj Tryz.prog sp).types 48=some ti:=d;rw [a] at this;exact Option.some.inj this
    . have:=zxb (sp:=sp)
      have a:(zj Tryz.prog sp).types 67=some ti:=d;rw [a] at this;exact Option.some.inj this
  . have f:∀ x ∈ qoy,∀ y ∈ qoy,x.2=y.2->x.1=y.1:=by decide
    exact f _ (b e c h) _ (b g c i) rfl
theorem kz:CfgOk2 XK (cfg sp):=by
  refine ⟨zwq,λgn ps h p b=>?_⟩;have a:q8w gn=some ps:=h;unfold q8w at a;split at a
  . cases a
    exact za rfl p b
  . cases a
end Go.Proofs.YtpdphcekmhajdaaGreatDoor
