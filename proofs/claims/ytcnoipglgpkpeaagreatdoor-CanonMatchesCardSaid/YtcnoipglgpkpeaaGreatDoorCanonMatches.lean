/- THE LAW CanonMatches of the chapter 26: the call returns true and nothing that was there before it is turned, whatever the arguments. No condition beyond its row's own: the listed variables read as the program's text lays them. -/
import Derived.Test.YtcnoipglgpkpeaaGreatDoorCards
import Derived.Test.YtcnoipglgpkpeaaGreatDoorTie
import Derived.Test.YtcnoipglgpkpeaaGreatDoorMatchesLift
namespace Go.Proofs.YtcnoipglgpkpeaaGreatDoor.canonMatches
open Go.ChangeShapes Go.WideShapes Go.ChangeAt Go.RowKit Go.ChangeMaps
set_option maxRecDepth 100000
/-! ### The row's closed facts, one by one (together they want more than 10 GB) -/
theorem jIn:(Rows.canonMatchesRow.inPlace == Tryz.pinned.checked.prog.inPlace 5)=true:=by kernel_rfl
theorem jUn:(Rows.canonMatchesRow.unfollowed == Tryz.pinned.checked.prog.unfollowed 5)=true:=by kernel_rfl
theorem jRe:(Rows.canonMatchesRow.recurses == Tryz.pinned.checked.prog.recurses 5)=true:=by kernel_rfl
theorem jNa:(Rows.canonMatchesRow.named == Tryz.pinned.checked.prog.varsNamed 5)=true:=by kernel_rfl
theorem zcj:joinedFacts Tryz.pinned.checked.prog 5 Tryz.f5 (OpenSpec.ofChange Rows.canonMatchesSpec).bare Rows.canonMatchesRow=true:=by
  unfold joinedFacts
  rw [jIn,jUn,jRe,jNa]
  kernel_rfl
theorem said:Rows.CanonMatchesSaid:=
  OpenClaim.holds_of_cond 5 Tryz.f5 rfl rfl rfl rfl rfl rfl rfl ⟨rfl,rfl,rfl,rfl,rfl⟩ rfl rfl rfl rfl rfl (by kernel_rfl) Tryz.func5 zcj
    (of_decide_eq_true (by kernel_rfl)) (by unfold Func.isWrapper;first | (rw [zT (by decide +kernel)];kernel_rfl) | (rw [zF (by decide +kernel)];exact ⟨rfl,rfl⟩))
    (fun os started H enc _ F=>by rw [OpenClaim.pre_eq_preRow];exact lifted os started H enc F)
/-- No parameter wants a stand-in; the program's own looks. -/
theorem plain (f:FuncId) (fn:Func) (hf:Tryz.pinned.checked.prog.funcNamed "tactus/tactuslaw26.CanonMatches" = some f) (hfn:Tryz.pinned.checked.prog.funcs[f]? = some fn) :
    true=Tryz.pinned.checked.prog.looks []/\∀ (j:Nat) t,fn.params[j]? = some t->Tryz.pinned.checked.prog.wantsStandIn t=false:=by
  obtain rfl:f=5:=Option.some.inj ((show Tryz.prog.funcNamed "tactus/tactuslaw26.CanonMatches" = some 5 by kernel_rfl).symm.trans hf) |>.symm
  obtain rfl:fn=Tryz.f5:=(Option.some.inj (Tryz.func5.symm.trans hfn)).symm
  refine ⟨by kernel_rfl,fun j t ht=>?_⟩
  rw [Tryz.params5] at ht
  have q0:Tryz.pinned.checked.prog.wantsStandIn 22=false:=by kernel_rfl
  have q1:Tryz.pinned.checked.prog.wantsStandIn 3=false:=by kernel_rfl
  rcases j with _ | _ | j
  . obtain rfl:22=t:=by simpa using ht
    exact q0
  . obtain rfl:3=t:=by simpa using ht
    exact q1
  . simp at ht
/-- THE CARD. -/
theorem card:Rows.CanonMatchesCardSaid:=
  Claim7.holds_tied_plain_at .later [] _ _ _ _ said (fun _ h=>by cases h) (by kernel_rfl) (fun _ h=>by cases h) canonMatches_row_tie rfl ⟨rfl,rfl⟩ (by kernel_rfl) rfl plain (by kernel_rfl)
#print axioms card
end Go.Proofs.YtcnoipglgpkpeaaGreatDoor.canonMatches
