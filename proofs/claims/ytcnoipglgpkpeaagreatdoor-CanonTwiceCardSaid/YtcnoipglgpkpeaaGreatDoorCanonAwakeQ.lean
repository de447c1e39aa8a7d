import Derived.Test.YtcnoipglgpkpeaaGreatDoorRows
import Derived.Test.YtcnoipglgpkpeaaGreatDoorCanonAwakeD
namespace Go.Proofs.YtcnoipglgpkpeaaGreatDoor.canonAwake
open Go
set_option maxRecDepth 100000
theorem zgx:E2.Fact.ok2 qwa (E2.qq Tryz.prog (E2.k9 [qog,qoh])) 1000=true:=by kernel_rfl
theorem zgy:E2.Fact.ok2 qwb (E2.qq Tryz.prog (E2.k9 [qog,qoh,qwa])) 1000=true:=by kernel_rfl
theorem zgz:E2.Fact.ok2 qwc (E2.qq Tryz.prog (E2.k9 [qoh])) 1000=true:=by kernel_rfl
theorem zg0:E2.Fact.ok2 qwd (E2.qq Tryz.prog (E2.k9 [qwb,qog,qwc])) 1000=true:=by kernel_rfl
theorem zg1:E2.Fact.ok2 qwe (E2.qq Tryz.prog (E2.k9 [qv8,qwd])) 1000=true:=by kernel_rfl
theorem zg2:E2.Fact.ok2 qry (E2.qq Tryz.prog (E2.k9 [qik])) 1000=true:=by kernel_rfl
end Go.Proofs.YtcnoipglgpkpeaaGreatDoor.canonAwake
namespace Go.Proofs.YtcnoipglgpkpeaaGreatDoor.canonAwake
open Go
set_option maxRecDepth 100000
theorem zg3:E2.Fact.ok2 qwf (E2.qq Tryz.prog (E2.k9 [qry,qik])) 1000=true:=by kernel_rfl
theorem zg4:E2.Fact.ok2 qwg (E2.qq Tryz.prog (E2.k9 [qik])) 1000=true:=by kernel_rfl
theorem zg5:E2.Fact.ok2 qwh (E2.qq Tryz.prog (E2.k9 [qwf,qry,qik,qwg])) 1000=true:=by kernel_rfl
theorem zg6:E2.Fact.ok2 qwi (E2.qq Tryz.prog (E2.k9 [])) 1000=true:=by kernel_rfl
theorem zg7:E2.Fact.ok2 qwj (E2.qq Tryz.prog (E2.k9 [])) 1000=true:=by kernel_rfl
theorem zg8:E2.Fact.ok2 qwk (E2.qq Tryz.prog (E2.k9 [])) 1000=true:=by kernel_rfl
theorem zg9:E2.Fact.ok2 qwl (E2.qq Tryz.prog (E2.k9 [])) 1000=true:=by kernel_rfl
end Go.Proofs.YtcnoipglgpkpeaaGreatDoor.canonAwake
namespace Go.Proofs.YtcnoipglgpkpeaaGreatDoor.canonAwake
open Go
set_option maxRecDepth 100000
theorem zha:E2.Fact.ok2 qrz (E2.qq Tryz.prog (E2.k9 [qk8,qik,qv7,qwe,qwh,qwi,qwj,qwk,qwl])) 1000=true:=by kernel_rfl
end Go.Proofs.YtcnoipglgpkpeaaGreatDoor.canonAwake
