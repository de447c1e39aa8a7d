import Derived.Test.YtcnoipglgpkpeaaGreatDoorRows
import Derived.Test.YtcnoipglgpkpeaaGreatDoorCanonAwakeD
namespace Go.Proofs.YtcnoipglgpkpeaaGreatDoor.canonAwake
open Go
set_option maxRecDepth 100000
theorem zm5:E2.Fact.ok2 qmj (E2.qq Tryz.prog (E2.jk [])) 1000=true:=by kernel_rfl
theorem zm6:E2.Fact.ok2 q6n (E2.qq Tryz.prog (E2.jk [qmj])) 1000=true:=by kernel_rfl
theorem zm7:E2.Fact.ok2 q6o (E2.qq Tryz.prog (E2.jk [])) 1000=true:=by kernel_rfl
theorem zm8:E2.Fact.ok2 q6p (E2.qq Tryz.prog (E2.jk [])) 1000=true:=by kernel_rfl
theorem zm9:E2.Fact.ok2 q6q (E2.qq Tryz.prog (E2.jk [q6o,q6p])) 1000=true:=by kernel_rfl
theorem zna:E2.Fact.ok2 q1s (E2.qq Tryz.prog (E2.jk [qmj])) 1000=true:=by kernel_rfl
theorem znb:E2.Fact.ok2 q6r (E2.qq Tryz.prog (E2.jk [q1s,qmj])) 1000=true:=by kernel_rfl
end Go.Proofs.YtcnoipglgpkpeaaGreatDoor.canonAwake
namespace Go.Proofs.YtcnoipglgpkpeaaGreatDoor.canonAwake
open Go
set_option maxRecDepth 100000
theorem znc:E2.Fact.ok2 q6s (E2.qq Tryz.prog (E2.jk [qmj])) 1000=true:=by kernel_rfl
theorem znd:E2.Fact.ok2 q6t (E2.qq Tryz.prog (E2.jk [q6r,q1s,qmj,q6s])) 1000=true:=by kernel_rfl
theorem zne:E2.Fact.ok2 q6u (E2.qq Tryz.prog (E2.jk [])) 1000=true:=by kernel_rfl
theorem zlr:E2.Fact.ok2 qyl (E2.qq Tryz.prog (E2.jk [])) 1000=true:=by kernel_rfl
theorem zls:E2.Fact.ok2 qym (E2.qq Tryz.prog (E2.jk [])) 1000=true:=by kernel_rfl
theorem zlt:E2.Fact.ok2 qyn (E2.qq Tryz.prog (E2.jk [])) 1000=true:=by kernel_rfl
theorem zlu:E2.Fact.ok2 qyo (E2.qq Tryz.prog (E2.jk [])) 1000=true:=by kernel_rfl
end Go.Proofs.YtcnoipglgpkpeaaGreatDoor.canonAwake
namespace Go.Proofs.YtcnoipglgpkpeaaGreatDoor.canonAwake
open Go
set_option maxRecDepth 100000
theorem zlv:E2.Fact.ok2 qto (E2.qq Tryz.prog (E2.jk [qmj,q6n,q6q,q6t,q6u,qyl,qym,qyn,qyo])) 1000=true:=by kernel_rfl
theorem zlw:E2.Fact.ok2 qjr (E2.qq Tryz.prog (E2.jk [])) 1000=true:=by kernel_rfl
theorem zlx:E2.Fact.ok2 qyp (E2.qq Tryz.prog (E2.jk [qjr])) 1000=true:=by kernel_rfl
theorem zly:E2.Fact.ok2 qyq (E2.qq Tryz.prog (E2.jk [])) 1000=true:=by kernel_rfl
theorem zlz:E2.Fact.ok2 qyr (E2.qq Tryz.prog (E2.jk [])) 1000=true:=by kernel_rfl
theorem zl0:E2.Fact.ok2 qps (E2.qq Tryz.prog (E2.jk [qyr])) 1000=true:=by kernel_rfl
theorem zl1:E2.Fact.ok2 qpt (E2.qq Tryz.prog (E2.jk [])) 1000=true:=by kernel_rfl
end Go.Proofs.YtcnoipglgpkpeaaGreatDoor.canonAwake
