import Derived.Test.YtpdphcekmhajdaaGreatDoorBookAwakeT
import Derived.Test.YtpdphcekmhajdaaGreatDoorBookAwakeK
import Derived.Test.YtpdphcekmhajdaaGreatDoorBookAwakeF
namespace Go.Proofs.YtpdphcekmhajdaaGreatDoor.bookAwake
open Go
set_option maxRecDepth 100000
theorem zl8:E2.qan Tryz.prog qyt.f qyt.qlh:=E2.qcz Tryz.checked.mixed tables E2.qct (by kernel_rfl) z0p
theorem zyb:E2.qan Tryz.prog q8m.f q8m.qlh:=E2.qcz Tryz.checked.mixed tables E2.qct (by kernel_rfl) z0q
theorem zyc:E2.qan Tryz.prog zep.f zep.qlh:=E2.qcz Tryz.checked.mixed tables E2.qct (by kernel_rfl) z0r
theorem zt5:E2.qan Tryz.prog q2z.f q2z.qlh:=E2.qcz Tryz.checked.mixed tables (E2.qaq zl8 (E2.qaq zyc E2.qct)) (by kernel_rfl) z0s
theorem zyd:E2.qan Tryz.prog zeq.f zeq.qlh:=E2.qcz Tryz.checked.mixed tables E2.qct (by kernel_rfl) z0t
theorem zye:E2.qan Tryz.prog q8n.f q8n.qlh:=E2.qcz Tryz.checked.mixed tables (E2.qaq zl8 (E2.qaq zyd E2.qct)) (by kernel_rfl) z0u
theorem zyf:E2.qan Tryz.prog zer.f zer.qlh:=E2.qcz Tryz.checked.mixed tables E2.qct (by kernel_rfl) z0v
theorem zl9:E2.qan Tryz.prog qyu.f qyu.qlh:=E2.qcz Tryz.checked.mixed tables (E2.qaq zyf E2.qct) (by kernel_rfl) z0w
theorem zyg:E2.qan Tryz.prog q8o.f q8o.qlh:=E2.qcz Tryz.checked.mixed tables (E2.qaq zl9 E2.qct) (by kernel_rfl) z0x
theorem zyh:E2.qan Tryz.prog q8p.f q8p.qlh:=E2.qcz Tryz.checked.mixed tables (E2.qaq zt5 (E2.qaq zl9 E2.qct)) (by kernel_rfl) z0y
theorem zyj:∀ F ∈ [qyt,q8m,q2z,q8n,q8o,qyu,q8p],E2.qan Tryz.prog F.f F.qlh:=(E2.qaq zl8 (E2.qaq zyb (E2.qaq zt5 (E2.qaq zye (E2.qaq zyg (E2.qaq zl9 (E2.qaq zyh E2.qct)))))))
end Go.Proofs.YtpdphcekmhajdaaGreatDoor.bookAwake
