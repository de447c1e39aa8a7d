import Derived.Test.YtpgchdcifbaioaaGreatDoorRows
import Derived.LaidLaws
import Derived.WalkKit
import Derived.ProofKit
import Derived.OpenShut
import Derived.ChangeMaps5
import Derived.Deep.DeepHandedRow
namespace Go.Proofs.YtpgchdcifbaioaaGreatDoor.bookTexts
open Go.ChangeShapes Go.WideShapes Go.ChangeAt Go.RowKit Go.ChangeMaps
set_option maxRecDepth 100000
def q1k:Nat->DataW Unit->List Value
 | n+1,.agg l=>l.flatMap (q1k n)
 | _+1,.lit (.int k i)=>[.int k i]
 | _+1,.lit (.bool b)=>[.bool b]
 | _+1,.lit (.string s)=>[.string ⟨s.toArray⟩]
 | _,_=>[]
def lay (g:Nat) (cs:List Value) (heap:Array Obj):Array Obj:=
 heap.modify g λ
  | .cells _ t a=>.cells cs.toArray t a
  | o=>o
def wit:Array Value:=#[.agg #[.string ⟨#[]⟩,.slice none 0 0],.string ⟨#[]⟩]
noncomputable def qww (os:Os):World:=
 {World.holding Tryz.prog os ⟨#[],wit,[]⟩ with heap:=lay 5 (q1k 8 Rows.laid_math_bits_deBruijn32tab) (lay 6 (q1k 8 Rows.laid_math_bits_deBruijn64tab) (lay 1 (q1k 8 Rows.laid_internal_strconv_uint64pow10) (lay 4 (q1k 8 Rows.laid_unicode_utf8_acceptRanges) (lay 0 (q1k 8 Rows.laid_tactus_sign_uses) (lay 3 (q1k 8 Rows.laid_unicode_utf8_first) ((World.holding Tryz.prog os ⟨#[],wit,[]⟩).heap))))))}
theorem zt6 (os:Os):laidMet Tryz.prog Rows.bookTextsRow.laid ((qww os).forCall (λ_ _=>0) ⟨#[],wit,[]⟩).memory:=
 laidMet_of_run' 8 (by kernel_rfl) (by kernel_rfl)
theorem reads (os:Os) {H:Type} (enc:TypeId×Value->H):∃ a,DataW.whole enc Tryz.prog ((qww os).forCall (λ_ _=>0) ⟨#[],wit,[]⟩).memory Tryz.f3.params.toList Rows.bookTextsSpec.vars false wit.toList 8=some ([.agg [.lit (.string []),.nil],.lit (.string [])],[],a):=
 ⟨[],by kernel_rfl⟩
end Go.Proofs.YtpgchdcifbaioaaGreatDoor.bookTexts
