import Derived.Test.YtbopmiclcimjgaaGreatDoorNtSpec
import Derived.Test.YtbopmiclcimjgaaGreatDoorInv
namespace Go.Proofs.YtbopmiclcimjgaaGreatDoor
open Go Go.E2 Go.E3
def qbc (a0:ZB) (i:Int):Prop:=0<=i/\i<=ln a0/\∀ j,0<=j->j<i->qn9 (bx a0 j)=true
def kz (a0:ZB) (i:Int):Nat:=(ln a0-i).toNat
def qbb (a0:ZB) (i:Int):Prop:=0<=i/\i<=ln a0/\∀ j,0<=j->j<i->qn9 (bx a0 j)=true
def ky (a0:ZB) (i:Int):Nat:=(ln a0-i).toNat
def qcn (_:ZB) (l:List Sign) (b:Bool) (i:Int):Prop:=0<=i/\i<=ln l/\qh0 l i=qh0 l 0/\b=ins l i/\(b=true->i<ln l/\(ix l i).Kind=4)
def qbd (_:ZB) (l:List Sign) (_:Bool) (i:Int):Nat:=(ln l-i).toNat
def j8 (_:ZB) (l:List Sign) (i:Int):Prop:=0<=i/\i<=ln l/\qh0 l i=qh0 l 0
def zu (_:ZB) (l:List Sign) (i:Int):Nat:=(ln l-i).toNat
def qe6 (a0 a1:List Sign) (i:Int):Prop:=0<=i/\i<=ln a0/\∀ j,0<=j->j<i->ix a0 j=ix a1 j
def qeh (a0 _:List Sign) (i:Int):Nat:=(ln a0-i).toNat
end Go.Proofs.YtbopmiclcimjgaaGreatDoor
