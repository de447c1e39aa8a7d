/- THE CONDITIONS of the law and of the last of the kit's functions hold; all conditions together. -/
import Derived.Test.YtbopmiclcimjgaaGreatDoorOksP
import Derived.Test.YtbopmiclcimjgaaGreatDoorOksW
import Derived.Test.YtbopmiclcimjgaaGreatDoorOksNb
import Derived.Test.YtbopmiclcimjgaaGreatDoorPlainN
namespace Go.Proofs.YtbopmiclcimjgaaGreatDoor
open Go Go.E2 Go.E3
set_option maxRecDepth 100000

theorem qvb (a0:List UInt8) (a1:Int) (_:U8 a1):ql4 a0 a1:=⟨trivial,rfl,trivial⟩
theorem q04 (a0 a1 a2 a3:Int) (a4:Bool) (a5:Int) (a6 a7:Bool) (a8 a9 a10 a11:Int) (a12:Bool) (a13 a14 a15 a16:Int) (a17:List UInt8) (_:ln a17<=9223372036854775807):qk2 a0 a1 a2 a3 a4 a5 a6 a7 a8 a9 a10 a11 a12 a13 a14 a15 a16 a17:=by
  unfold qk2
  simp only [<-zdz,ne_eq,not_true,false_implies,true_implies,and_self,and_true,true_and,or_self,implies_true,imp_self,eq_self]
end Go.Proofs.YtbopmiclcimjgaaGreatDoor
