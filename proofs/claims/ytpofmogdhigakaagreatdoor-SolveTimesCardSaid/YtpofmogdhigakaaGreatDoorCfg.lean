import Derived.Test.YtpofmogdhigakaaGreatDoorNat
import Derived.Test.YtpofmogdhigakaaGreatDoorSolveAwakeGlob
import Derived.Test.YtpofmogdhigakaaGreatDoorRows
namespace Go.Proofs.YtpofmogdhigakaaGreatDoor
open Go Go.E2 Go.E3
set_option maxRecDepth 100000
variable {sp:Nat->Option (List V->Heap->Option (CR×Heap))}
def qm7:List (Nat×Nat):=[(3,1),(5,0),(35,9),(49,4),(73,18),(125,17),(128,13),(135,26)]
def zlq:List (Nat×Nat):=[(96,27)]
def zrk:List Nat:=[5]
def q0t:Nat->Option (List (PV KT))
  | 0=>some ([0,0,0,0,0,0,0,0,0,0,0,0,1,1,1,1,0,0,0,0,0,0,0,0,1,0,0,0,0,0,0,0,0,0,0,0,0,0,0,0,0,0,0,0,0,0,0,0,0,1,1,1,1,1,1,0,0,0,0,0,0,0,0,0,0,0,0,1,1,0,0,0,0,0,0,0,0,0,0,0,0,1,1,0,0,0,0,0,0,0,0,0,0,0,0,1,0,0,0,0,0,0,0,0,0,1,0,0,0,0,0,0,0,0,0,0,0,0,0,0,0,0,0,0,0,0,0,0,0,1,0,0,0,0,0,0,0,0,0,0,0,0,0,0,0,0,0,0,0,0,0,0,0,0,0,0].map λn:Nat=>.lit (Nat.beq n 1))
  | 2=>some [.int .i64 (some 0) 0,.int .i64 (some 1) 1,.int .i64 (some 1) 1,.int .i64 (some 2) 2,.int .i64 (some 1) 1,.int .i64 (some 3) 3,.int .i64 (some 3) 3,.int .i64 (some 4) 4,.int .i64 (some 4) 4,.int .i64 (some 3) 3,.int .i64 (some 3) 3,.int .i64 (some 4) 4,.int .i64 (some 4) 4]
  | _=>none
noncomputable def cfg (sp:Nat->Option (List V->Heap->Option (CR×Heap))):Cfg Int Bool ZB Prop (λc=>List (KT c)):={E:=qw Tryz.prog sp,qp:=q0t,codec:=Go.E3.look qm7,ann:=λ_ _=>none,ans:=λf=>zrk.any λg=>Nat.beq g f,ng:=3,prim:=λ_=>false,gobj:=Go.E3.look solveAwake.qp,mcod:=Go.E3.look zlq,born:=λt=>[22].any λu=>Nat.beq u t,keepM:=λf=>[106].any λu=>Nat.beq u f}
theorem q1r:((qw Tryz.prog sp).types 3).map (·.size)=some 1:=by kernel_rfl
theorem zud:((qw Tryz.prog sp).types 5).map (·.size)=some 1:=by kernel_rfl
theorem zqi:((qw Tryz.prog sp).types 35).map (·.size)=some 2:=by kernel_rfl
theorem zqj:((qw Tryz.prog sp).types 49).map (·.size)=some 17:=by kernel_rfl
theorem zqk:((qw Tryz.prog sp).types 73).map (·.size)=some 2:=by kernel_rfl
theorem zjp:((qw Tryz.prog sp).types 125).map (·.size)=some 3:=by kernel_rfl
theorem zjq:((qw Tryz.prog sp).types 128).map (·.size)=some 8:=by kernel_rfl
theorem zjr:((qw Tryz.prog sp).types 135).map (·.size)=some 1:=by kernel_rfl
theorem zi:CfgOk XK szK (cfg sp):=by
  have b:∀ e c,Go.E3.look qm7 e=some c->(e,c) ∈ qm7:=λe c h=>qco h;refine ⟨ztm,λe c h=>?_,λe c ti h d=>?_,λe g c h i=>?_,zvd,λ_=>rfl,zpt⟩
  . have:=b e c h
    simp only [qm7,zD,zP,List.not_mem_nil,or_false] at this;rcases this with ⟨rfl,rfl⟩ | ⟨rfl,rfl⟩ | ⟨rfl,rfl⟩ | ⟨rfl,rfl⟩ | ⟨rfl,rfl⟩ | ⟨rfl,rfl⟩ | ⟨rfl,rfl⟩ | ⟨rfl,rfl⟩<;>exact zL Nat.zero_lt_one (by decide)
  . have:=b e c h
    simp only [qm7,zD,zP,List.not_mem_nil,or_false] at this;rcases this with ⟨rfl,rfl⟩ | ⟨rfl,rfl⟩ | ⟨rfl,rfl⟩ | ⟨rfl,rfl⟩ | ⟨rfl,rfl⟩ | ⟨rfl,rfl⟩ | ⟨rfl,rfl⟩ | ⟨rfl,rfl⟩
    . have:=q1r (sp:=sp)
      have a:(qw Tryz.prog sp).types 3=some ti:=d;rw [a] at this;exact Option.some.inj this
    . have:=zud (sp:=sp)
      have a:(qw Tryz.prog sp).types 5=some ti:=d;rw [a] at this;exact Option.some.inj this
    . have:=zqi (sp:=sp)
      have a:(qw Tryz.prog sp).types 35=some ti:=d;rw [a] at this;exact Option.some.inj this
    . have:=zqj (sp:=sp)
      have a:(qw Tryz.prog sp).types 49=some ti:=d;rw [a] at this;exact Option.some.inj this
    . have:=zqk (sp:=sp)
      have a:(qw Tryz.prog sp).types 73=some ti:=d;rw [a] at this;exact Option.some.inj this
    . have:=zjp (sp:=sp)
      have a:(qw Tryz.prog sp).types 125=some ti:=d;rw [a] at this;exact Option.some.inj this
    . have:=zjq (sp:=sp)
      have a:(qw Tryz.prog sp).types 128=some ti:=d;rw [a] at this;exact Option.some.inj this
    . have:=zjr (sp:=sp)
      have a:(qw Tryz.prog sp).types 135=some ti:=d;rw [a] at this;exact Option.some.inj this
  . have f:∀ x ∈ qm7,∀ y ∈ qm7,x.2=y.2->x.1=y.1:=by decide
    exact f _ (b e c h) _ (b g c i) rfl
theorem ze:CfgOk2 XK (cfg sp):=by
  refine ⟨zf2,λgn ps h p b=>?_⟩;have a:q0t gn=some ps:=h;unfold q0t at a;split at a
  . cases a
    exact qa4 rfl p b
  . cases a
    exact qa4 rfl p b
  . cases a
def fd (t o:Nat):Field:=⟨"",t,o,false,"","",0⟩
def fi (f:Func):Option FI:=some ⟨f.body,0,f.ntmps,f.results.toList⟩
noncomputable def zqw:Nat->Option TI
  | 3=>some ⟨.int .i64,1,8,.int .i64 0,false⟩
  | 4=>some ⟨.bool,1,1,.bool false,false⟩
  | 9=>some ⟨.string,1,16,.str [],false⟩
  | _=>none
noncomputable def zqx:Nat->Option TI
  | 22=>some ⟨.slice 49,1,24,.nils,false⟩
  | 24=>some ⟨.struct #[fd 9 0,fd 22 1],2,40,.agg [.str [],.nils],true⟩
  | 25=>some ⟨.slice 35,1,24,.nils,false⟩
  | 30=>some ⟨.int .i64,1,8,.int .i64 0,false⟩
  | _=>none
noncomputable def zqy:Nat->Option TI
  | 35=>some ⟨.struct #[fd 3 0,fd 3 1],2,16,.agg [.int .i64 0,.int .i64 0],true⟩
  | 45=>some ⟨.struct #[fd 3 0,fd 3 1,fd 3 2,fd 3 3],4,32,.agg [.int .i64 0,.int .i64 0,.int .i64 0,.int .i64 0],true⟩
  | 47=>some ⟨.struct #[fd 3 0,fd 3 1],2,16,.agg [.int .i64 0,.int .i64 0],true⟩
  | _=>none
noncomputable def zqz:Nat->Option TI
  | 49=>some ⟨.struct #[fd 3 0,fd 3 1,fd 3 2,fd 3 3,fd 4 4,fd 3 5,fd 4 6,fd 4 7,fd 45 8,fd 4 12,fd 3 13,fd 3 14,fd 47 15],17,128,.agg [.int .i64 0,.int .i64 0,.int .i64 0,.int .i64 0,.bool false,.int .i64 0,.bool false,.bool false,.int .i64 0,.int .i64 0,.int .i64 0,.int .i64 0,.bool false,.int .i64 0,.int .i64 0,.int .i64 0,.int .i64 0],true⟩
  | 52=>some ⟨.slice 3,1,24,.nils,false⟩
  | 56=>some ⟨.struct #[fd 30 0,fd 3 1],2,16,.agg [.int .i64 0,.int .i64 0],true⟩
  | _=>none
noncomputable def zq0:Nat->Option TI
  | 68=>some ⟨.pointer 30,1,8,.nilp,false⟩
  | 69=>some ⟨.slice 73,1,24,.nils,false⟩
  | 73=>some ⟨.struct #[fd 3 0,fd 3 1],2,16,.agg [.int .i64 0,.int .i64 0],true⟩
  | _=>none
noncomputable def zq1:Nat->Option TI
  | 82=>some ⟨.slice 128,1,24,.nils,false⟩
  | 89=>some ⟨.struct #[fd 35 0,fd 30 2],3,24,.agg [.int .i64 0,.int .i64 0,.int .i64 0],true⟩
  | _=>none
noncomputable def zq2:Nat->Option TI
  | 96=>some ⟨.map 3 35,1,8,.nilm,false⟩
  | _=>none
noncomputable def zq3:Nat->Option TI
  | 121=>some ⟨.slice 125,1,24,.nils,false⟩
  | 125=>some ⟨.struct #[fd 3 0,fd 3 1,fd 3 2],3,24,.agg [.int .i64 0,.int .i64 0,.int .i64 0],true⟩
  | _=>none
noncomputable def zq4:Nat->Option TI
  | 128=>some ⟨.struct #[fd 3 0,fd 3 1,fd 45 2,fd 35 6],8,64,.agg [.int .i64 0,.int .i64 0,.int .i64 0,.int .i64 0,.int .i64 0,.int .i64 0,.int .i64 0,.int .i64 0],true⟩
  | 139=>some ⟨.struct #[fd 56 0],2,16,.agg [.int .i64 0,.int .i64 0],true⟩
  | _=>none
noncomputable def zq5:Nat->Option TI
  | 144=>some ⟨.struct #[fd 4 0,fd 4 1,fd 4 2,fd 4 3,fd 4 4,fd 4 5,fd 4 6,fd 4 7,fd 4 8,fd 4 9,fd 4 10,fd 4 11],12,12,.agg [.bool false,.bool false,.bool false,.bool false,.bool false,.bool false,.bool false,.bool false,.bool false,.bool false,.bool false,.bool false],true⟩
  | 145=>some ⟨.array 13 144,156,156,.agg ([0,0,0,0,0,0,0,0,0,0,0,0,0,0,0,0,0,0,0,0,0,0,0,0,0,0,0,0,0,0,0,0,0,0,0,0,0,0,0,0,0,0,0,0,0,0,0,0,0,0,0,0,0,0,0,0,0,0,0,0,0,0,0,0,0,0,0,0,0,0,0,0,0,0,0,0,0,0,0,0,0,0,0,0,0,0,0,0,0,0,0,0,0,0,0,0,0,0,0,0,0,0,0,0,0,0,0,0,0,0,0,0,0,0,0,0,0,0,0,0,0,0,0,0,0,0,0,0,0,0,0,0,0,0,0,0,0,0,0,0,0,0,0,0,0,0,0,0,0,0,0,0,0,0,0,0].map λn:Nat=>.bool (Nat.beq n 1)),true⟩
  | _=>none
noncomputable def zj1:Nat->Option TI
  | 168=>some ⟨.array 4 3,4,32,.agg [.int .i64 0,.int .i64 0,.int .i64 0,.int .i64 0],true⟩
  | _=>none
noncomputable def zj2:Nat->Option TI
  | 216=>some ⟨.array 13 3,13,104,.agg [.int .i64 0,.int .i64 0,.int .i64 0,.int .i64 0,.int .i64 0,.int .i64 0,.int .i64 0,.int .i64 0,.int .i64 0,.int .i64 0,.int .i64 0,.int .i64 0,.int .i64 0],true⟩
  | 218=>some ⟨.slice 220,1,24,.nils,false⟩
  | 220=>some ⟨.func #[22,3] #[3] false,1,8,.nilf,false⟩
  | _=>none
noncomputable def zvu (n:Nat):Option TI:=match n / 16 with
  | 0=>zqw n
  | 1=>zqx n
  | 2=>zqy n
  | 3=>zqz n
  | 4=>zq0 n
  | 5=>zq1 n
  | 6=>zq2 n
  | 7=>zq3 n
  | 8=>zq4 n
  | 9=>zq5 n
  | 10=>zj1 n
  | 13=>zj2 n
  | _=>none
noncomputable def zny:Nat->Option FI
  | 3=>fi Tryz.f3
  | 4=>fi Tryz.f4
  | 6=>fi Tryz.f6
  | 7=>fi Tryz.f7
  | 8=>fi Tryz.f8
  | 9=>fi Tryz.f9
  | 10=>fi Tryz.f10
  | 11=>fi Tryz.f11
  | 12=>fi Tryz.f12
  | 13=>fi Tryz.f13
  | _=>none
noncomputable def znz:Nat->Option FI
  | 21=>fi Tryz.f21
  | 22=>fi Tryz.f22
  | 23=>fi Tryz.f23
  | 24=>fi Tryz.f24
  | 25=>fi Tryz.f25
  | 26=>fi Tryz.f26
  | 27=>fi Tryz.f27
  | 28=>fi Tryz.f28
  | 29=>fi Tryz.f29
  | 30=>fi Tryz.f30
  | 31=>fi Tryz.f31
  | _=>none
noncomputable def zn0:Nat->Option FI
  | 32=>fi Tryz.f32
  | 33=>fi Tryz.f33
  | 34=>fi Tryz.f34
  | 38=>fi Tryz.f38
  | 39=>fi Tryz.f39
  | 40=>fi Tryz.f40
  | 41=>fi Tryz.f41
  | 42=>fi Tryz.f42
  | 43=>fi Tryz.f43
  | 44=>fi Tryz.f44
  | 45=>fi Tryz.f45
  | 46=>fi Tryz.f46
  | 47=>fi Tryz.f47
  | _=>none
noncomputable def zn1:Nat->Option FI
  | 48=>fi Tryz.f48
  | 49=>fi Tryz.f49
  | 50=>fi Tryz.f50
  | 51=>fi Tryz.f51
  | 52=>fi Tryz.f52
  | 53=>fi Tryz.f53
  | 55=>fi Tryz.f55
  | 56=>fi Tryz.f56
  | 57=>fi Tryz.f57
  | 63=>fi Tryz.f63
  | _=>none
noncomputable def zn2:Nat->Option FI
  | 64=>fi Tryz.f64
  | 65=>fi Tryz.f65
  | 66=>fi Tryz.f66
  | 67=>fi Tryz.f67
  | 68=>fi Tryz.f68
  | 69=>fi Tryz.f69
  | 70=>fi Tryz.f70
  | 71=>fi Tryz.f71
  | 72=>fi Tryz.f72
  | 73=>fi Tryz.f73
  | 77=>fi Tryz.f77
  | _=>none
noncomputable def zn3:Nat->Option FI
  | 86=>fi Tryz.f86
  | 87=>fi Tryz.f87
  | 88=>fi Tryz.f88
  | 89=>fi Tryz.f89
  | 90=>fi Tryz.f90
  | 91=>fi Tryz.f91
  | 92=>fi Tryz.f92
  | 93=>fi Tryz.f93
  | 94=>fi Tryz.f94
  | 95=>fi Tryz.f95
  | _=>none
noncomputable def zn4:Nat->Option FI
  | 96=>fi Tryz.f96
  | 97=>fi Tryz.f97
  | 98=>fi Tryz.f98
  | 105=>fi Tryz.f105
  | 106=>fi Tryz.f106
  | 107=>fi Tryz.f107
  | 108=>fi Tryz.f108
  | 109=>fi Tryz.f109
  | 110=>fi Tryz.f110
  | 111=>fi Tryz.f111
  | _=>none
noncomputable def zn5:Nat->Option FI
  | 112=>fi Tryz.f112
  | 113=>fi Tryz.f113
  | 114=>fi Tryz.f114
  | 115=>fi Tryz.f115
  | _=>none
noncomputable def zn6:Nat->Option FI
  | 128=>fi Tryz.f128
  | 129=>fi Tryz.f129
  | 130=>fi Tryz.f130
  | 131=>fi Tryz.f131
  | 132=>fi Tryz.f132
  | 133=>fi Tryz.f133
  | _=>none
noncomputable def zn7:Nat->Option FI
  | 152=>fi Tryz.f152
  | 153=>fi Tryz.f153
  | 154=>fi Tryz.f154
  | 155=>fi Tryz.f155
  | _=>none
noncomputable def zh4:Nat->Option FI
  | 176=>fi Tryz.f176
  | 177=>fi Tryz.f177
  | 178=>fi Tryz.f178
  | 179=>fi Tryz.f179
  | 180=>fi Tryz.f180
  | 181=>fi Tryz.f181
  | 182=>fi Tryz.f182
  | _=>none
noncomputable def zsd (n:Nat):Option FI:=match n / 16 with
  | 0=>zny n
  | 1=>znz n
  | 2=>zn0 n
  | 3=>zn1 n
  | 4=>zn2 n
  | 5=>zn3 n
  | 6=>zn4 n
  | 7=>zn5 n
  | 8=>zn6 n
  | 9=>zn7 n
  | 11=>zh4 n
  | _=>none
def zsh:Nat->Option (List (PT KT))
  | 0=>some ([0,0,0,0,0,0,0,0,0,0,0,0,1,1,1,1,0,0,0,0,0,0,0,0,1,0,0,0,0,0,0,0,0,0,0,0,0,0,0,0,0,0,0,0,0,0,0,0,0,1,1,1,1,1,1,0,0,0,0,0,0,0,0,0,0,0,0,1,1,0,0,0,0,0,0,0,0,0,0,0,0,1,1,0,0,0,0,0,0,0,0,0,0,0,0,1,0,0,0,0,0,0,0,0,0,1,0,0,0,0,0,0,0,0,0,0,0,0,0,0,0,0,0,0,0,0,0,0,0,1,0,0,0,0,0,0,0,0,0,0,0,0,0,0,0,0,0,0,0,0,0,0,0,0,0,0].map λn:Nat=>.lit (Nat.beq n 1))
  | 2=>some [.int .i64 (some 0) (λ_=>0),.int .i64 (some 1) (λ_=>1),.int .i64 (some 1) (λ_=>1),.int .i64 (some 2) (λ_=>2),.int .i64 (some 1) (λ_=>1),.int .i64 (some 3) (λ_=>3),.int .i64 (some 3) (λ_=>3),.int .i64 (some 4) (λ_=>4),.int .i64 (some 4) (λ_=>4),.int .i64 (some 3) (λ_=>3),.int .i64 (some 3) (λ_=>3),.int .i64 (some 4) (λ_=>4),.int .i64 (some 4) (λ_=>4)]
  | _=>none
noncomputable def jw:q4i KT:={E:={types:=zvu,funcs:=zsd,spec:=λ_=>none,eqOk:=λ_=>true,lies:=λ_ _ _ _=>false},qp:=zsh,codec:=Go.E3.look qm7,ann:=λ_ _=>none,ans:=λf=>zrk.any λg=>Nat.beq g f,ng:=3,prim:=λ_=>false,gobj:=λ_=>none,mcod:=Go.E3.look zlq,born:=λt=>[22].any λu=>Nat.beq u t,keepM:=λf=>[106].any λu=>Nat.beq u f}
end Go.Proofs.YtpofmogdhigakaaGreatDoor
