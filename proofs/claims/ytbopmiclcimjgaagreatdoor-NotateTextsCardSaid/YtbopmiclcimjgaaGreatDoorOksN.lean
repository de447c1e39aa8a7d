/- LEMMAS for the condition of the program's reading of a word. -/
import Derived.Test.YtbopmiclcimjgaaGreatDoorOksA
import Derived.Test.YtbopmiclcimjgaaGreatDoorVcsN
namespace Go.Proofs.YtbopmiclcimjgaaGreatDoor
open Go Go.E2 Go.E3
set_option maxRecDepth 100000

/-! ### What is known, marked as used -/
def pv (p:Prop):Prop:=p
theorem pv.out {p:Prop} (h:pv p):p:=h
section
variable {w m:List UInt8} {i i0 x k a p v:Int} {b b0 ok c o:Bool} {Q:Prop} {ch:UInt8}
theorem w0:(qo3 w m i i0->Q)↔(pv (qo3 w m i i0)->i0<=i->i<=ln w->ln m<=1->Q):=⟨fun h t _ _ _=>h t,fun h t=>h t t.out.2.2.1.1 t.out.2.2.1.2 t.out.2.2.2⟩
theorem w1:(qo4 w i i0->Q)↔(pv (qo4 w i i0)->i0<=i->i<=ln w->Q):=⟨fun h t _ _=>h t,fun h t=>h t t.out.1.1 t.out.1.2⟩
theorem w2:(qo5 w i i0->Q)↔(pv (qo5 w i i0)->i0<=i->i<=ln w->Q):=⟨fun h t _ _=>h t,fun h t=>h t t.out.1.1 t.out.1.2⟩
theorem w3:(qyl w b b0 ok->Q)↔(pv (b=(b0 || !ok))->Q):=⟨fun h t=>h ⟨t⟩,fun h t=>h t.out⟩
theorem w4:(qym w b b0 ok->Q)↔(pv (b=(b0 || !ok))->Q):=⟨fun h t=>h ⟨t⟩,fun h t=>h t.out⟩
end

/-! ### Step by step -/
section
variable {w m:List UInt8} {i i0 x j e k a p v y z:Int} {b b0 ok c o l:Bool} {ch:UInt8}
/-! ### Kind by kind -/
end
end Go.Proofs.YtbopmiclcimjgaaGreatDoor
