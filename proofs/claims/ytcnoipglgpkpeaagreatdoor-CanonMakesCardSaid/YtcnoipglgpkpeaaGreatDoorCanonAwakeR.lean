import Derived.Test.YtcnoipglgpkpeaaGreatDoorRows
import Derived.Test.YtcnoipglgpkpeaaGreatDoorCanonAwakeD
namespace Go.Proofs.YtcnoipglgpkpeaaGreatDoor.canonAwake
open Go
set_option maxRecDepth 100000
theorem zsn:E2.Fact.ok2 qm9 (E2.qy Tryz.prog (E2.jt [])) 1000=true:=by kernel_rfl
theorem zso:E2.Fact.ok2 zai (E2.qy Tryz.prog (E2.jt [qm9])) 1000=true:=by kernel_rfl
theorem zsp:E2.Fact.ok2 zaj (E2.qy Tryz.prog (E2.jt [])) 1000=true:=by kernel_rfl
theorem zsq:E2.Fact.ok2 zak (E2.qy Tryz.prog (E2.jt [])) 1000=true:=by kernel_rfl
theorem zsr:E2.Fact.ok2 zal (E2.qy Tryz.prog (E2.jt [zaj,zak])) 1000=true:=by kernel_rfl
theorem zss:E2.Fact.ok2 q4x (E2.qy Tryz.prog (E2.jt [qm9])) 1000=true:=by kernel_rfl
theorem zst:E2.Fact.ok2 zam (E2.qy Tryz.prog (E2.jt [q4x,qm9])) 1000=true:=by kernel_rfl
end Go.Proofs.YtcnoipglgpkpeaaGreatDoor.canonAwake
namespace Go.Proofs.YtcnoipglgpkpeaaGreatDoor.canonAwake
open Go
set_option maxRecDepth 100000
theorem zsu:E2.Fact.ok2 zan (E2.qy Tryz.prog (E2.jt [qm9])) 1000=true:=by kernel_rfl
theorem zsv:E2.Fact.ok2 zao (E2.qy Tryz.prog (E2.jt [zam,q4x,qm9,zan])) 1000=true:=by kernel_rfl
theorem zsw:E2.Fact.ok2 zap (E2.qy Tryz.prog (E2.jt [])) 1000=true:=by kernel_rfl
theorem zrc:E2.Fact.ok2 q06 (E2.qy Tryz.prog (E2.jt [])) 1000=true:=by kernel_rfl
theorem zrd:E2.Fact.ok2 q07 (E2.qy Tryz.prog (E2.jt [])) 1000=true:=by kernel_rfl
theorem zre:E2.Fact.ok2 q08 (E2.qy Tryz.prog (E2.jt [])) 1000=true:=by kernel_rfl
theorem zrf:E2.Fact.ok2 q09 (E2.qy Tryz.prog (E2.jt [])) 1000=true:=by kernel_rfl
end Go.Proofs.YtcnoipglgpkpeaaGreatDoor.canonAwake
namespace Go.Proofs.YtcnoipglgpkpeaaGreatDoor.canonAwake
open Go
set_option maxRecDepth 100000
theorem zrg:E2.Fact.ok2 qvc (E2.qy Tryz.prog (E2.jt [qm9,zai,zal,zao,zap,q06,q07,q08,q09])) 1000=true:=by kernel_rfl
theorem zrh:E2.Fact.ok2 qke (E2.qy Tryz.prog (E2.jt [])) 1000=true:=by kernel_rfl
theorem zri:E2.Fact.ok2 q1a (E2.qy Tryz.prog (E2.jt [qke])) 1000=true:=by kernel_rfl
theorem zrj:E2.Fact.ok2 q1b (E2.qy Tryz.prog (E2.jt [])) 1000=true:=by kernel_rfl
theorem zrk:E2.Fact.ok2 q1c (E2.qy Tryz.prog (E2.jt [])) 1000=true:=by kernel_rfl
theorem zrl:E2.Fact.ok2 qqs (E2.qy Tryz.prog (E2.jt [q1c])) 1000=true:=by kernel_rfl
theorem zrm:E2.Fact.ok2 qqt (E2.qy Tryz.prog (E2.jt [])) 1000=true:=by kernel_rfl
end Go.Proofs.YtcnoipglgpkpeaaGreatDoor.canonAwake
