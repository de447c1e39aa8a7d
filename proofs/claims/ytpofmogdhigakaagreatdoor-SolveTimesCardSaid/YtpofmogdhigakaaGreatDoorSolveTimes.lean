/- THE LAW SolveTimes of the chapter 19: the call returns true and nothing that was there before it is turned, whatever the arguments. No condition beyond its row's own: the listed variables read as the program's text lays them. -/
import Derived.Test.YtpofmogdhigakaaGreatDoorCards
import Derived.Test.YtpofmogdhigakaaGreatDoorTie
import Derived.Test.YtpofmogdhigakaaGreatDoorSolveLift
namespace Go.Proofs.YtpofmogdhigakaaGreatDoor.solveTimes
open Go.ChangeShapes Go.WideShapes Go.ChangeAt Go.RowKit Go.ChangeMaps
set_option maxRecDepth 100000
/-! ### The row's closed facts, one by one (together they want more than 10 GB) -/
theorem jIn:(Rows.solveTimesRow.inPlace == Tryz.pinned.checked.prog.inPlace 3)=true:=by kernel_rfl
theorem jUn:(Rows.solveTimesRow.unfollowed == Tryz.pinned.checked.prog.unfollowed 3)=true:=by kernel_rfl
theorem jRe:(Rows.solveTimesRow.recurses == Tryz.pinned.checked.prog.recurses 3)=true:=by kernel_rfl
theorem jNa:(Rows.solveTimesRow.named == Tryz.pinned.checked.prog.varsNamed 3)=true:=by kernel_rfl
theorem zop:joinedFacts Tryz.pinned.checked.prog 3 Tryz.f3 (OpenSpec.ofChange Rows.solveTimesSpec).bare Rows.solveTimesRow=true:=by
  unfold joinedFacts;rw [jIn,jUn,jRe,jNa];kernel_rfl
theorem said:Rows.SolveTimesSaid:=
  OpenClaim.holds_of_cond 3 Tryz.f3 rfl rfl rfl rfl rfl rfl rfl ⟨rfl,rfl,rfl,rfl,rfl⟩ rfl rfl rfl rfl rfl (by kernel_rfl) Tryz.func3 zop
    (of_decide_eq_true (by kernel_rfl)) (by unfold Func.isWrapper;first | (rw [zT (by decide +kernel)];kernel_rfl) | (rw [zF (by decide +kernel)];exact ⟨rfl,rfl⟩))
    (λb a H enc _ F=>by rw [OpenClaim.pre_eq_preRow];exact lifted b a H enc F)
/-- No parameter wants a stand-in; the program's own looks. -/
theorem plain (f:FuncId) (fn:Func) (c:Tryz.pinned.checked.prog.funcNamed "tactus/tactuslaw19.SolveTimes" = some f) (b:Tryz.pinned.checked.prog.funcs[f]? = some fn) :
    true=Tryz.pinned.checked.prog.looks []/\∀ (j:Nat) t,fn.params[j]? = some t->Tryz.pinned.checked.prog.wantsStandIn t=false:=by
  obtain rfl:f=3:=Option.some.inj ((show Tryz.prog.funcNamed "tactus/tactuslaw19.SolveTimes" = some 3 by kernel_rfl).symm.trans c) |>.symm;obtain rfl:fn=Tryz.f3:=(Option.some.inj (Tryz.func3.symm.trans b)).symm;refine ⟨by kernel_rfl,λj t a=>?_⟩;rw [Tryz.params3] at a;have d:Tryz.pinned.checked.prog.wantsStandIn 24=false:=by kernel_rfl
  have e:Tryz.pinned.checked.prog.wantsStandIn 25=false:=by kernel_rfl
  rcases j with _ | _ | j
  . obtain rfl:24=t:=by simpa using a
    exact d
  . obtain rfl:25=t:=by simpa using a
    exact e
  . simp at a
/-- THE CARD. -/
theorem card:Rows.SolveTimesCardSaid:=
  Claim7.holds_tied_plain_at .later [] _ _ _ _ said (λ_ h=>by cases h) (by kernel_rfl) (λ_ h=>by cases h) solveTimes_row_tie rfl ⟨rfl,rfl⟩ (by kernel_rfl) rfl plain (by kernel_rfl)
#print axioms card
end Go.Proofs.YtpofmogdhigakaaGreatDoor.solveTimes
