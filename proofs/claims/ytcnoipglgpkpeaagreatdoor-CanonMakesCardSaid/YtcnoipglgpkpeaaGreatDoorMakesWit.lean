import Derived.Test.YtcnoipglgpkpeaaGreatDoorRows
import Derived.LaidLaws
import Derived.WalkKit
import Derived.ProofKit
import Derived.OpenShut
import Derived.ChangeMaps5
import Derived.Deep.DeepHandedRow
namespace Go.Proofs.YtcnoipglgpkpeaaGreatDoor.canonMakes
open Go.ChangeShapes Go.WideShapes Go.ChangeAt Go.RowKit Go.ChangeMaps
set_option maxRecDepth 100000
def q40:Nat->DataW Unit->List Value
 | n+1,.agg l=>l.flatMap (q40 n)
 | _+1,.lit (.int k i)=>[.int k i]
 | _+1,.lit (.bool b)=>[.bool b]
 | _+1,.lit (.string s)=>[.string ⟨s.toArray⟩]
 | _,_=>[]
def lay (g:Nat) (cs:List Value) (heap:Array Obj):Array Obj:=
 heap.modify g fun
  | .cells _ t frozen=>.cells cs.toArray t frozen
  | o=>o
def wit:Array Value:=#[.slice none 0 0,.slice none 0 0,.agg #[.int .i64 0,.int .i64 0,.int .i64 0,.bool false,.bool false,.int .i64 0,.int .i64 0,.int .i64 0,.int .i64 0,.int .i64 0,.int .i64 0]]
noncomputable def qq3 (os:Os):World:=
 {World.holding Tryz.prog os ⟨#[],wit,[]⟩ with heap:=lay 2 (q40 8 Rows.laid_tactus_item_half) (lay 0 (q40 8 Rows.laid_tactus_pitch_halves) (lay 1 (q40 8 Rows.laid_tactus_sign_uses) (lay 3 (q40 8 Rows.laid_tactus_sign_classes) ((World.holding Tryz.prog os ⟨#[],wit,[]⟩).heap))))}
theorem zhq (os:Os):laidMet Tryz.prog Rows.canonMakesRow.laid ((qq3 os).forCall (fun _ _=>0) ⟨#[],wit,[]⟩).memory:=
 laidMet_of_run' 8 (by kernel_rfl) (by kernel_rfl)
theorem reads (os:Os) {H:Type} (enc:TypeId×Value->H):∃ places,DataW.whole enc Tryz.prog ((qq3 os).forCall (fun _ _=>0) ⟨#[],wit,[]⟩).memory Tryz.f4.params.toList Rows.canonMakesSpec.vars false wit.toList 8=some ([.nil,.nil,.agg [.agg [.lit (.int .i64 0),.lit (.int .i64 0)],.lit (.int .i64 0),.lit (.bool false),.lit (.bool false),.agg [.lit (.int .i64 0),.lit (.int .i64 0)],.agg [.lit (.int .i64 0),.lit (.int .i64 0),.lit (.int .i64 0),.lit (.int .i64 0)]]],[],places):=
 ⟨[],by kernel_rfl⟩
end Go.Proofs.YtcnoipglgpkpeaaGreatDoor.canonMakes
