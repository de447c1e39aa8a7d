import Derived.Test.YtpofmogdhigakaaGreatDoorRows
import Derived.LaidLaws
import Derived.WalkKit
import Derived.ProofKit
import Derived.OpenShut
import Derived.ChangeMaps5
import Derived.Deep.DeepHandedRow
namespace Go.Proofs.YtpofmogdhigakaaGreatDoor.solveTimes
open Go.ChangeShapes Go.WideShapes Go.ChangeAt Go.RowKit Go.ChangeMaps
set_option maxRecDepth 100000
def q94:Nat->DataW Unit->List Value
 | n+1,.agg l=>l.flatMap (q94 n)
 | _+1,.lit (.int k i)=>[.int k i]
 | _+1,.lit (.bool b)=>[.bool b]
 | _+1,.lit (.string s)=>[.string ⟨s.toArray⟩]
 | _,_=>[]
def lay (g:Nat) (cs:List Value) (heap:Array Obj):Array Obj:=
 heap.modify g λ
  | .cells _ t a=>.cells cs.toArray t a
  | o=>o
def wit:Array Value:=#[.agg #[.string ⟨#[]⟩,.slice none 0 0],.slice none 0 0]
noncomputable def qud (os:Os):World:=
 {World.holding Tryz.prog os ⟨#[],wit,[]⟩ with heap:=lay 1 (q94 8 Rows.laid_tactus_item_half) (lay 0 (q94 8 Rows.laid_tactus_sign_uses) (lay 2 (q94 8 Rows.laid_tactus_sign_classes) ((World.holding Tryz.prog os ⟨#[],wit,[]⟩).heap)))}
theorem zew (os:Os):laidMet Tryz.prog Rows.solveTimesRow.laid ((qud os).forCall (λ_ _=>0) ⟨#[],wit,[]⟩).memory:=
 laidMet_of_run' 8 (by kernel_rfl) (by kernel_rfl)
theorem reads (os:Os) {H:Type} (enc:TypeId×Value->H):∃ a,DataW.whole enc Tryz.prog ((qud os).forCall (λ_ _=>0) ⟨#[],wit,[]⟩).memory Tryz.f3.params.toList Rows.solveTimesSpec.vars false wit.toList 8=some ([.agg [.lit (.string []),.nil],.nil],[],a):=
 ⟨[],by kernel_rfl⟩
end Go.Proofs.YtpofmogdhigakaaGreatDoor.solveTimes
