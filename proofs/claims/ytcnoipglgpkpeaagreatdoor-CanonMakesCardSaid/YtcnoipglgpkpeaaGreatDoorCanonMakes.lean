/- THE LAW CanonMakes of the chapter 26: the call returns true and nothing that was there before it is turned, whatever the arguments. No condition beyond its row's own: the listed variables read as the program's text lays them. -/
import Derived.Test.YtcnoipglgpkpeaaGreatDoorCards
import Derived.Test.YtcnoipglgpkpeaaGreatDoorTie
import Derived.Test.YtcnoipglgpkpeaaGreatDoorMakesLift
namespace Go.Proofs.YtcnoipglgpkpeaaGreatDoor.canonMakes
open Go.ChangeShapes Go.WideShapes Go.ChangeAt Go.RowKit Go.ChangeMaps
set_option maxRecDepth 100000
/-! ### The row's closed facts, one by one (together they want more than 10 GB) -/
theorem jIn:(Rows.canonMakesRow.inPlace == Tryz.pinned.checked.prog.inPlace 4)=true:=by kernel_rfl
theorem jUn:(Rows.canonMakesRow.unfollowed == Tryz.pinned.checked.prog.unfollowed 4)=true:=by kernel_rfl
theorem jRe:(Rows.canonMakesRow.recurses == Tryz.pinned.checked.prog.recurses 4)=true:=by kernel_rfl
theorem jNa:(Rows.canonMakesRow.named == Tryz.pinned.checked.prog.varsNamed 4)=true:=by kernel_rfl
theorem zhl:joinedFacts Tryz.pinned.checked.prog 4 Tryz.f4 (OpenSpec.ofChange Rows.canonMakesSpec).bare Rows.canonMakesRow=true:=by
  unfold joinedFacts
  rw [jIn,jUn,jRe,jNa]
  kernel_rfl
theorem said:Rows.CanonMakesSaid:=
  OpenClaim.holds_of_cond 4 Tryz.f4 rfl rfl rfl rfl rfl rfl rfl ⟨rfl,rfl,rfl,rfl,rfl⟩ rfl rfl rfl rfl rfl (by kernel_rfl) Tryz.func4 zhl
    (of_decide_eq_true (by kernel_rfl)) (by unfold Func.isWrapper;first | (rw [zT (by decide +kernel)];kernel_rfl) | (rw [zF (by decide +kernel)];exact ⟨rfl,rfl⟩))
    (fun os started H enc _ F=>by rw [OpenClaim.pre_eq_preRow];exact lifted os started H enc F)
/-- No parameter wants a stand-in; the program's own looks. -/
theorem plain (f:FuncId) (fn:Func) (hf:Tryz.pinned.checked.prog.funcNamed "tactus/tactuslaw26.CanonMakes" = some f) (hfn:Tryz.pinned.checked.prog.funcs[f]? = some fn) :
    true=Tryz.pinned.checked.prog.looks []/\∀ (j:Nat) t,fn.params[j]? = some t->Tryz.pinned.checked.prog.wantsStandIn t=false:=by
  obtain rfl:f=4:=Option.some.inj ((show Tryz.prog.funcNamed "tactus/tactuslaw26.CanonMakes" = some 4 by kernel_rfl).symm.trans hf) |>.symm
  obtain rfl:fn=Tryz.f4:=(Option.some.inj (Tryz.func4.symm.trans hfn)).symm
  refine ⟨by kernel_rfl,fun j t ht=>?_⟩
  rw [Tryz.params4] at ht
  have q0:Tryz.pinned.checked.prog.wantsStandIn 23=false:=by kernel_rfl
  have q1:Tryz.pinned.checked.prog.wantsStandIn 23=false:=by kernel_rfl
  have q2:Tryz.pinned.checked.prog.wantsStandIn 30=false:=by kernel_rfl
  rcases j with _ | _ | _ | j
  . obtain rfl:23=t:=by simpa using ht
    exact q0
  . obtain rfl:23=t:=by simpa using ht
    exact q1
  . obtain rfl:30=t:=by simpa using ht
    exact q2
  . simp at ht
/-- THE CARD. -/
theorem card:Rows.CanonMakesCardSaid:=
  Claim7.holds_tied_plain_at .later [] _ _ _ _ said (fun _ h=>by cases h) (by kernel_rfl) (fun _ h=>by cases h) canonMakes_row_tie rfl ⟨rfl,rfl⟩ (by kernel_rfl) rfl plain (by kernel_rfl)
#print axioms card
end Go.Proofs.YtcnoipglgpkpeaaGreatDoor.canonMakes
