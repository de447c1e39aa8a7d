import Derived.Test.YtcnoipglgpkpeaaGreatDoorRows
import Derived.Test.YtcnoipglgpkpeaaGreatDoorCanonAwakeD
namespace Go.Proofs.YtcnoipglgpkpeaaGreatDoor.canonAwake
open Go
set_option maxRecDepth 100000
theorem zl2:E2.Fact.ok2 qys (E2.qq Tryz.prog (E2.jk [qps,qpt])) 1000=true:=by kernel_rfl
theorem zl3:E2.Fact.ok2 qyt (E2.qq Tryz.prog (E2.jk [qps,qpt,qys])) 1000=true:=by kernel_rfl
theorem zl4:E2.Fact.ok2 qyu (E2.qq Tryz.prog (E2.jk [qpt])) 1000=true:=by kernel_rfl
theorem zl5:E2.Fact.ok2 qyv (E2.qq Tryz.prog (E2.jk [qyt,qps,qyu])) 1000=true:=by kernel_rfl
theorem zl6:E2.Fact.ok2 qyw (E2.qq Tryz.prog (E2.jk [qyq,qyv])) 1000=true:=by kernel_rfl
theorem zl7:E2.Fact.ok2 qtp (E2.qq Tryz.prog (E2.jk [qjr])) 1000=true:=by kernel_rfl
end Go.Proofs.YtcnoipglgpkpeaaGreatDoor.canonAwake
namespace Go.Proofs.YtcnoipglgpkpeaaGreatDoor.canonAwake
open Go
set_option maxRecDepth 100000
theorem zl8:E2.Fact.ok2 qyx (E2.qq Tryz.prog (E2.jk [qtp,qjr])) 1000=true:=by kernel_rfl
theorem zl9:E2.Fact.ok2 qyy (E2.qq Tryz.prog (E2.jk [qjr])) 1000=true:=by kernel_rfl
theorem zma:E2.Fact.ok2 qyz (E2.qq Tryz.prog (E2.jk [qyx,qtp,qjr,qyy])) 1000=true:=by kernel_rfl
theorem zmb:E2.Fact.ok2 qy0 (E2.qq Tryz.prog (E2.jk [])) 1000=true:=by kernel_rfl
theorem zmc:E2.Fact.ok2 qy1 (E2.qq Tryz.prog (E2.jk [])) 1000=true:=by kernel_rfl
theorem zmd:E2.Fact.ok2 qy2 (E2.qq Tryz.prog (E2.jk [])) 1000=true:=by kernel_rfl
theorem zme:E2.Fact.ok2 qy3 (E2.qq Tryz.prog (E2.jk [])) 1000=true:=by kernel_rfl
end Go.Proofs.YtcnoipglgpkpeaaGreatDoor.canonAwake
namespace Go.Proofs.YtcnoipglgpkpeaaGreatDoor.canonAwake
open Go
set_option maxRecDepth 100000
theorem zmf:E2.Fact.ok2 qtq (E2.qq Tryz.prog (E2.jk [qmj,qjr,qyp,qyw,qyz,qy0,qy1,qy2,qy3])) 1000=true:=by kernel_rfl
end Go.Proofs.YtcnoipglgpkpeaaGreatDoor.canonAwake
