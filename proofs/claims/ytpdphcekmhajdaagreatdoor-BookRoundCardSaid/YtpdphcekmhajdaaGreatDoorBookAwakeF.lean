import Derived.Test.YtpdphcekmhajdaaGreatDoorRows
import Derived.Test.YtpdphcekmhajdaaGreatDoorBookAwakeD
namespace Go.Proofs.YtpdphcekmhajdaaGreatDoor.bookAwake
open Go
set_option maxRecDepth 100000
theorem z0p:E2.Fact.ok2 qyt (E2.zj Tryz.prog (E2.qi7 [])) 1000=true:=by kernel_rfl
theorem z0q:E2.Fact.ok2 q8m (E2.zj Tryz.prog (E2.qi7 [])) 1000=true:=by kernel_rfl
theorem z0r:E2.Fact.ok2 zep (E2.zj Tryz.prog (E2.qi7 [])) 1000=true:=by kernel_rfl
theorem z0s:E2.Fact.ok2 q2z (E2.zj Tryz.prog (E2.qi7 [qyt,zep])) 1000=true:=by kernel_rfl
theorem z0t:E2.Fact.ok2 zeq (E2.zj Tryz.prog (E2.qi7 [])) 1000=true:=by kernel_rfl
theorem z0u:E2.Fact.ok2 q8n (E2.zj Tryz.prog (E2.qi7 [qyt,zeq])) 1000=true:=by kernel_rfl
end Go.Proofs.YtpdphcekmhajdaaGreatDoor.bookAwake
namespace Go.Proofs.YtpdphcekmhajdaaGreatDoor.bookAwake
open Go
set_option maxRecDepth 100000
theorem z0v:E2.Fact.ok2 zer (E2.zj Tryz.prog (E2.qi7 [])) 1000=true:=by kernel_rfl
theorem z0w:E2.Fact.ok2 qyu (E2.zj Tryz.prog (E2.qi7 [zer])) 1000=true:=by kernel_rfl
theorem z0x:E2.Fact.ok2 q8o (E2.zj Tryz.prog (E2.qi7 [qyu])) 1000=true:=by kernel_rfl
theorem z0y:E2.Fact.ok2 q8p (E2.zj Tryz.prog (E2.qi7 [q2z,qyu])) 1000=true:=by kernel_rfl
end Go.Proofs.YtpdphcekmhajdaaGreatDoor.bookAwake
