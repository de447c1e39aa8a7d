/- THE LAW CanonTwice of the chapter 26: the call returns true and nothing that was there before it is turned, whatever the arguments. No condition beyond its row's own: the listed variables read as the program's text lays them. -/
import Derived.Test.YtcnoipglgpkpeaaGreatDoorCards
import Derived.Test.YtcnoipglgpkpeaaGreatDoorTie
import Derived.Test.YtcnoipglgpkpeaaGreatDoorCanonLift
namespace Go.Proofs.YtcnoipglgpkpeaaGreatDoor.canonTwice
open Go.ChangeShapes Go.WideShapes Go.ChangeAt Go.RowKit Go.ChangeMaps
set_option maxRecDepth 100000
/-! ### The row's closed facts, one by one (together they want more than 10 GB) -/
theorem jIn:(Rows.canonTwiceRow.inPlace == Tryz.pinned.checked.prog.inPlace 3)=true:=by kernel_rfl
theorem jUn:(Rows.canonTwiceRow.unfollowed == Tryz.pinned.checked.prog.unfollowed 3)=true:=by kernel_rfl
theorem jRe:(Rows.canonTwiceRow.recurses == Tryz.pinned.checked.prog.recurses 3)=true:=by kernel_rfl
theorem jNa:(Rows.canonTwiceRow.named == Tryz.pinned.checked.prog.varsNamed 3)=true:=by kernel_rfl
theorem q8s:joinedFacts Tryz.pinned.checked.prog 3 Tryz.f3 (OpenSpec.ofChange Rows.canonTwiceSpec).bare Rows.canonTwiceRow=true:=by
  unfold joinedFacts
  rw [jIn,jUn,jRe,jNa]
  kernel_rfl
theorem said:Rows.CanonTwiceSaid:=
  OpenClaim.holds_of_cond 3 Tryz.f3 rfl rfl rfl rfl rfl rfl rfl ⟨rfl,rfl,rfl,rfl,rfl⟩ rfl rfl rfl rfl rfl (by kernel_rfl) Tryz.func3 q8s
    (of_decide_eq_true (by kernel_rfl)) (by unfold Func.isWrapper;first | (rw [zT (by decide +kernel)];kernel_rfl) | (rw [zF (by decide +kernel)];exact ⟨rfl,rfl⟩))
    (fun os started H enc _ F=>by rw [OpenClaim.pre_eq_preRow];exact lifted os started H enc F)
/-- No parameter wants a stand-in; the program's own looks. -/
theorem plain (f:FuncId) (fn:Func) (hf:Tryz.pinned.checked.prog.funcNamed "tactus/tactuslaw26.CanonTwice" = some f) (hfn:Tryz.pinned.checked.prog.funcs[f]? = some fn) :
    true=Tryz.pinned.checked.prog.looks []/\∀ (j:Nat) t,fn.params[j]? = some t->Tryz.pinned.checked.prog.wantsStandIn t=false:=by
  obtain rfl:f=3:=Option.some.inj ((show Tryz.prog.funcNamed "tactus/tactuslaw26.CanonTwice" = some 3 by kernel_rfl).symm.trans hf) |>.symm
  obtain rfl:fn=Tryz.f3:=(Option.some.inj (Tryz.func3.symm.trans hfn)).symm
  refine ⟨by kernel_rfl,fun j t ht=>?_⟩
  rw [Tryz.params3] at ht
  have q0:Tryz.pinned.checked.prog.wantsStandIn 22=false:=by kernel_rfl
  rcases j with _ | j
  . obtain rfl:22=t:=by simpa using ht
    exact q0
  . simp at ht
/-- THE CARD. -/
theorem card:Rows.CanonTwiceCardSaid:=
  Claim7.holds_tied_plain_at .later [] _ _ _ _ said (fun _ h=>by cases h) (by kernel_rfl) (fun _ h=>by cases h) canonTwice_row_tie rfl ⟨rfl,rfl⟩ (by kernel_rfl) rfl plain (by kernel_rfl)
#print axioms card
end Go.Proofs.YtcnoipglgpkpeaaGreatDoor.canonTwice
