/- THE CONDITIONS of the law and of the last of the kit's functions hold; all conditions together. -/
import Derived.Test.YtbopmiclcimjgaaGreatDoorOksP
import Derived.Test.YtbopmiclcimjgaaGreatDoorOksW
import Derived.Test.YtbopmiclcimjgaaGreatDoorOksNb
import Derived.Test.YtbopmiclcimjgaaGreatDoorPlainN
namespace Go.Proofs.YtbopmiclcimjgaaGreatDoor
open Go Go.E2 Go.E3
set_option maxRecDepth 100000

theorem qs0 (a0:List UInt8) (a1:Int) (_:U8 a1):qj4 a0 a1:=⟨trivial,rfl,trivial⟩
end Go.Proofs.YtbopmiclcimjgaaGreatDoor
