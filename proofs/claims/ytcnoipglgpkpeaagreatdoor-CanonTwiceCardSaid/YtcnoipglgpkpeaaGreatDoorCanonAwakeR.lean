import Derived.Test.YtcnoipglgpkpeaaGreatDoorRows
import Derived.Test.YtcnoipglgpkpeaaGreatDoorCanonAwakeD
namespace Go.Proofs.YtcnoipglgpkpeaaGreatDoor.canonAwake
open Go
set_option maxRecDepth 100000
theorem zhv:E2.Fact.ok2 qk8 (E2.qq Tryz.prog (E2.k9 [])) 1000=true:=by kernel_rfl
theorem zhw:E2.Fact.ok2 q3b (E2.qq Tryz.prog (E2.k9 [qk8])) 1000=true:=by kernel_rfl
theorem zhx:E2.Fact.ok2 q3c (E2.qq Tryz.prog (E2.k9 [])) 1000=true:=by kernel_rfl
theorem zhy:E2.Fact.ok2 q3d (E2.qq Tryz.prog (E2.k9 [])) 1000=true:=by kernel_rfl
theorem zhz:E2.Fact.ok2 q3e (E2.qq Tryz.prog (E2.k9 [q3c,q3d])) 1000=true:=by kernel_rfl
theorem zh0:E2.Fact.ok2 qy4 (E2.qq Tryz.prog (E2.k9 [qk8])) 1000=true:=by kernel_rfl
theorem zh1:E2.Fact.ok2 q3f (E2.qq Tryz.prog (E2.k9 [qy4,qk8])) 1000=true:=by kernel_rfl
end Go.Proofs.YtcnoipglgpkpeaaGreatDoor.canonAwake
namespace Go.Proofs.YtcnoipglgpkpeaaGreatDoor.canonAwake
open Go
set_option maxRecDepth 100000
theorem zh2:E2.Fact.ok2 q3g (E2.qq Tryz.prog (E2.k9 [qk8])) 1000=true:=by kernel_rfl
theorem zh3:E2.Fact.ok2 q3h (E2.qq Tryz.prog (E2.k9 [q3f,qy4,qk8,q3g])) 1000=true:=by kernel_rfl
theorem zh4:E2.Fact.ok2 q3i (E2.qq Tryz.prog (E2.k9 [])) 1000=true:=by kernel_rfl
theorem zgm:E2.Fact.ok2 qv3 (E2.qq Tryz.prog (E2.k9 [])) 1000=true:=by kernel_rfl
theorem zgn:E2.Fact.ok2 qv4 (E2.qq Tryz.prog (E2.k9 [])) 1000=true:=by kernel_rfl
theorem zgo:E2.Fact.ok2 qv5 (E2.qq Tryz.prog (E2.k9 [])) 1000=true:=by kernel_rfl
theorem zgp:E2.Fact.ok2 qv6 (E2.qq Tryz.prog (E2.k9 [])) 1000=true:=by kernel_rfl
end Go.Proofs.YtcnoipglgpkpeaaGreatDoor.canonAwake
namespace Go.Proofs.YtcnoipglgpkpeaaGreatDoor.canonAwake
open Go
set_option maxRecDepth 100000
theorem zgq:E2.Fact.ok2 qrx (E2.qq Tryz.prog (E2.k9 [qk8,q3b,q3e,q3h,q3i,qv3,qv4,qv5,qv6])) 1000=true:=by kernel_rfl
theorem zgr:E2.Fact.ok2 qik (E2.qq Tryz.prog (E2.k9 [])) 1000=true:=by kernel_rfl
theorem zgs:E2.Fact.ok2 qv7 (E2.qq Tryz.prog (E2.k9 [qik])) 1000=true:=by kernel_rfl
theorem zgt:E2.Fact.ok2 qv8 (E2.qq Tryz.prog (E2.k9 [])) 1000=true:=by kernel_rfl
theorem zgu:E2.Fact.ok2 qv9 (E2.qq Tryz.prog (E2.k9 [])) 1000=true:=by kernel_rfl
theorem zgv:E2.Fact.ok2 qog (E2.qq Tryz.prog (E2.k9 [qv9])) 1000=true:=by kernel_rfl
theorem zgw:E2.Fact.ok2 qoh (E2.qq Tryz.prog (E2.k9 [])) 1000=true:=by kernel_rfl
end Go.Proofs.YtcnoipglgpkpeaaGreatDoor.canonAwake
