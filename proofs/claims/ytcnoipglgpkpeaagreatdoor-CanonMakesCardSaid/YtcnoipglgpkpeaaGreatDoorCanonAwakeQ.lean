import Derived.Test.YtcnoipglgpkpeaaGreatDoorRows
import Derived.Test.YtcnoipglgpkpeaaGreatDoorCanonAwakeD
namespace Go.Proofs.YtcnoipglgpkpeaaGreatDoor.canonAwake
open Go
set_option maxRecDepth 100000
theorem zrn:E2.Fact.ok2 q1d (E2.qy Tryz.prog (E2.jt [qqs,qqt])) 1000=true:=by kernel_rfl
theorem zro:E2.Fact.ok2 q1e (E2.qy Tryz.prog (E2.jt [qqs,qqt,q1d])) 1000=true:=by kernel_rfl
theorem zrp:E2.Fact.ok2 q1f (E2.qy Tryz.prog (E2.jt [qqt])) 1000=true:=by kernel_rfl
theorem zrq:E2.Fact.ok2 q1g (E2.qy Tryz.prog (E2.jt [q1e,qqs,q1f])) 1000=true:=by kernel_rfl
theorem zrr:E2.Fact.ok2 q1h (E2.qy Tryz.prog (E2.jt [q1b,q1g])) 1000=true:=by kernel_rfl
theorem zrs:E2.Fact.ok2 qvd (E2.qy Tryz.prog (E2.jt [qke])) 1000=true:=by kernel_rfl
end Go.Proofs.YtcnoipglgpkpeaaGreatDoor.canonAwake
namespace Go.Proofs.YtcnoipglgpkpeaaGreatDoor.canonAwake
open Go
set_option maxRecDepth 100000
theorem zrt:E2.Fact.ok2 q1i (E2.qy Tryz.prog (E2.jt [qvd,qke])) 1000=true:=by kernel_rfl
theorem zru:E2.Fact.ok2 q1j (E2.qy Tryz.prog (E2.jt [qke])) 1000=true:=by kernel_rfl
theorem zrv:E2.Fact.ok2 q1k (E2.qy Tryz.prog (E2.jt [q1i,qvd,qke,q1j])) 1000=true:=by kernel_rfl
theorem zrw:E2.Fact.ok2 q1l (E2.qy Tryz.prog (E2.jt [])) 1000=true:=by kernel_rfl
theorem zrx:E2.Fact.ok2 q1m (E2.qy Tryz.prog (E2.jt [])) 1000=true:=by kernel_rfl
theorem zry:E2.Fact.ok2 q1n (E2.qy Tryz.prog (E2.jt [])) 1000=true:=by kernel_rfl
theorem zrz:E2.Fact.ok2 q1o (E2.qy Tryz.prog (E2.jt [])) 1000=true:=by kernel_rfl
end Go.Proofs.YtcnoipglgpkpeaaGreatDoor.canonAwake
namespace Go.Proofs.YtcnoipglgpkpeaaGreatDoor.canonAwake
open Go
set_option maxRecDepth 100000
theorem zr0:E2.Fact.ok2 qve (E2.qy Tryz.prog (E2.jt [qm9,qke,q1a,q1h,q1k,q1l,q1m,q1n,q1o])) 1000=true:=by kernel_rfl
end Go.Proofs.YtcnoipglgpkpeaaGreatDoor.canonAwake
