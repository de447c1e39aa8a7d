import Derived.Test.YtpbliaccnbgapaaGreatDoorRows
import Derived.LaidLaws
import Derived.WalkKit
import Derived.ProofKit
import Derived.OpenShut
import Derived.ChangeMaps5
import Derived.Deep.DeepHandedRow
namespace Go.Proofs.YtpbliaccnbgapaaGreatDoor.eventTexts
open Go.ChangeShapes Go.WideShapes Go.ChangeAt Go.RowKit Go.ChangeMaps
set_option maxRecDepth 100000
def qsh:Nat->DataW Unit->List Value
 | n+1,.agg l=>l.flatMap (qsh n)
 | _+1,.lit (.int k i)=>[.int k i]
 | _+1,.lit (.bool b)=>[.bool b]
 | _+1,.lit (.string s)=>[.string ⟨s.toArray⟩]
 | _,_=>[]
def lay (g:Nat) (cs:List Value) (heap:Array Obj):Array Obj:=
 heap.modify g fun
  | .cells _ t frozen=>.cells cs.toArray t frozen
  | o=>o
def wit:Array Value:=#[.slice none 0 0,.string ⟨#[]⟩]
noncomputable def qra (os:Os):World:=
 {World.holding Tryz.prog os ⟨#[],wit,[]⟩ with heap:=lay 4 (qsh 8 Rows.laid_math_bits_deBruijn32tab) (lay 5 (qsh 8 Rows.laid_math_bits_deBruijn64tab) (lay 0 (qsh 8 Rows.laid_internal_strconv_uint64pow10) (lay 7 (qsh 8 Rows.laid_unicode_utf8_acceptRanges) (lay 1 (qsh 8 Rows.laid_tactus_sign_uses) (lay 8 (qsh 8 Rows.laid_tactus_sign_classes) (lay 6 (qsh 8 Rows.laid_unicode_utf8_first) ((World.holding Tryz.prog os ⟨#[],wit,[]⟩).heap)))))))}
theorem zhk (os:Os):laidMet Tryz.prog Rows.eventTextsRow.laid ((qra os).forCall (fun _ _=>0) ⟨#[],wit,[]⟩).memory:=
 laidMet_of_run' 8 (by kernel_rfl) (by kernel_rfl)
theorem reads (os:Os) {H:Type} (enc:TypeId×Value->H):∃ places,DataW.whole enc Tryz.prog ((qra os).forCall (fun _ _=>0) ⟨#[],wit,[]⟩).memory Tryz.f3.params.toList Rows.eventTextsSpec.vars false wit.toList 8=some ([.nil,.lit (.string [])],[],places):=
 ⟨[],by kernel_rfl⟩
end Go.Proofs.YtpbliaccnbgapaaGreatDoor.eventTexts
