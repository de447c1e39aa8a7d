import Derived.Test.YtpbliaccnbgapaaGreatDoorRows
import Derived.LaidLaws
import Derived.WalkKit
import Derived.ProofKit
import Derived.OpenShut
import Derived.ChangeMaps5
import Derived.Deep.DeepHandedRow
namespace Go.Proofs.YtpbliaccnbgapaaGreatDoor.eventSounds
open Go.ChangeShapes Go.WideShapes Go.ChangeAt Go.RowKit Go.ChangeMaps
set_option maxRecDepth 100000
def qph:Nat->DataW Unit->List Value
 | n+1,.agg l=>l.flatMap (qph n)
 | _+1,.lit (.int k i)=>[.int k i]
 | _+1,.lit (.bool b)=>[.bool b]
 | _+1,.lit (.string s)=>[.string ⟨s.toArray⟩]
 | _,_=>[]
def lay (g:Nat) (cs:List Value) (heap:Array Obj):Array Obj:=
 heap.modify g fun
  | .cells _ t frozen=>.cells cs.toArray t frozen
  | o=>o
def wit:Array Value:=#[.slice none 0 0,.int .i64 0]
noncomputable def qq8 (os:Os):World:=
 {World.holding Tryz.prog os ⟨#[],wit,[]⟩ with heap:=lay 4 (qph 8 Rows.laid_math_bits_deBruijn32tab) (lay 5 (qph 8 Rows.laid_math_bits_deBruijn64tab) (lay 0 (qph 8 Rows.laid_internal_strconv_uint64pow10) (lay 7 (qph 8 Rows.laid_unicode_utf8_acceptRanges) (lay 3 (qph 8 Rows.laid_tactus_item_half) (lay 1 (qph 8 Rows.laid_tactus_sign_uses) (lay 8 (qph 8 Rows.laid_tactus_sign_classes) (lay 6 (qph 8 Rows.laid_unicode_utf8_first) ((World.holding Tryz.prog os ⟨#[],wit,[]⟩).heap))))))))}
theorem zg3 (os:Os):laidMet Tryz.prog Rows.eventSoundsRow.laid ((qq8 os).forCall (fun _ _=>0) ⟨#[],wit,[]⟩).memory:=
 laidMet_of_run' 8 (by kernel_rfl) (by kernel_rfl)
theorem reads (os:Os) {H:Type} (enc:TypeId×Value->H):∃ places,DataW.whole enc Tryz.prog ((qq8 os).forCall (fun _ _=>0) ⟨#[],wit,[]⟩).memory Tryz.f4.params.toList Rows.eventSoundsSpec.vars false wit.toList 8=some ([.nil,.lit (.int .i64 0)],[],places):=
 ⟨[],by kernel_rfl⟩
end Go.Proofs.YtpbliaccnbgapaaGreatDoor.eventSounds
