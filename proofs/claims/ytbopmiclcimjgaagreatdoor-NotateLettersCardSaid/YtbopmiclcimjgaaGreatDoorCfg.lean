/- WHAT IS SAID OF THE PROGRAM beside its text: its lists' elements' types. Made by program (vc.py). -/
import Derived.Test.YtbopmiclcimjgaaGreatDoorNat
import Derived.Test.YtbopmiclcimjgaaGreatDoorRows
import Derived.Test.YtbopmiclcimjgaaGreatDoorNotateGlob
namespace Go.Proofs.YtbopmiclcimjgaaGreatDoor
open Go Go.E2 Go.E3
set_option maxRecDepth 100000
variable {mx:Int} {sp:Nat->Option (List V->Heap->Option (CR×Heap))}
def qid:List (Nat×Nat):=[(3,1),(5,0)]
def q25:List (Nat×Nat):=[]
def q3k:List Nat:=[110,9]
def qym:Nat->Option (List (PV KT))
  | _=>none
noncomputable def cfg (mx:Int) (sp:Nat->Option (List V->Heap->Option (CR×Heap))):Cfg Int Bool ZB Prop (fun c=>List (KT c)):={E:=ql Tryz.prog sp,qk:=qym,codec:=Go.E3.look qid,ann:=fun _ _=>none,ans:=fun f=>q3k.any fun g=>Nat.beq g f,ng:=7,prim:=fun _=>false,gobj:=Go.E3.look (notateAwake.qk++[(1,.row [.int .i64 mx] 3 0 0 0 false)]),mcod:=Go.E3.look q25}
theorem q3a:((ql Tryz.prog sp).types 3).map (·.size)=some 1:=by kernel_rfl
theorem q3b:((ql Tryz.prog sp).types 5).map (·.size)=some 1:=by kernel_rfl
theorem qnf:CfgOk XK szK (cfg mx sp):=by
  have mem:∀ e c,Go.E3.look qid e=some c->(e,c) ∈ qid:=fun e c h=>qdd h
  refine ⟨q3l,fun e c h=>?_,fun e c ti h ht=>?_,fun e e' c h h'=>?_,q3n,fun _=>rfl,q19⟩
  . have:=mem e c h
    simp only [qid,zD,zP,List.not_mem_nil,or_false] at this
    rcases this with ⟨rfl,rfl⟩ | ⟨rfl,rfl⟩<;>exact zL Nat.zero_lt_one (by decide)
  . have:=mem e c h
    simp only [qid,zD,zP,List.not_mem_nil,or_false] at this
    rcases this with ⟨rfl,rfl⟩ | ⟨rfl,rfl⟩
    . have:=q3a (sp:=sp)
      have ht':(ql Tryz.prog sp).types 3=some ti:=ht
      rw [ht'] at this
      exact Option.some.inj this
    . have:=q3b (sp:=sp)
      have ht':(ql Tryz.prog sp).types 5=some ti:=ht
      rw [ht'] at this
      exact Option.some.inj this
  . have key:∀ x ∈ qid,∀ y ∈ qid,x.2=y.2->x.1=y.1:=by decide
    exact key _ (mem e c h) _ (mem e' c h') rfl
theorem qic:CfgOk2 XK (cfg mx sp):=by
  refine ⟨q2a,fun gn ps h p hp=>?_⟩
  have h':qym gn=some ps:=h
  unfold qym at h'
  split at h'
  . cases h'
end Go.Proofs.YtbopmiclcimjgaaGreatDoor
