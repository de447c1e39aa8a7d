import Derived.Test.YtbopmiclcimjgaaGreatDoorOksP
import Derived.Test.YtbopmiclcimjgaaGreatDoorOksNb
import Derived.Test.YtbopmiclcimjgaaGreatDoorOksQ
namespace Go.Proofs.YtbopmiclcimjgaaGreatDoor
open Go Go.E2 Go.E3
theorem qyo (a0:ZB) (a1:Int) (_:U8 a1):qnz a0 a1:=⟨trivial,rfl,trivial⟩
end Go.Proofs.YtbopmiclcimjgaaGreatDoor
