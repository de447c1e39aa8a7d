import Derived.Test.YtpgchdcifbaioaaGreatDoorBookAwakeT
import Derived.Test.YtpgchdcifbaioaaGreatDoorBookAwakeK
import Derived.Test.YtpgchdcifbaioaaGreatDoorBookAwakeF
namespace Go.Proofs.YtpgchdcifbaioaaGreatDoor.bookAwake
open Go
set_option maxRecDepth 100000
theorem z6o:E2.qbx Tryz.prog zjz.f zjz.qpq:=E2.qly Tryz.checked.mixed tables E2.qir (by kernel_rfl) z9i
theorem z6p:E2.qbx Tryz.prog zj0.f zj0.qpq:=E2.qly Tryz.checked.mixed tables E2.qir (by kernel_rfl) z9j
theorem z6q:E2.qbx Tryz.prog zcl.f zcl.qpq:=E2.qly Tryz.checked.mixed tables (E2.qlx z6o (E2.qlx z6p E2.qir)) (by kernel_rfl) z9k
theorem z6r:E2.qbx Tryz.prog zj1.f zj1.qpq:=E2.qly Tryz.checked.mixed tables E2.qir (by kernel_rfl) z9l
theorem z6s:E2.qbx Tryz.prog zcm.f zcm.qpq:=E2.qly Tryz.checked.mixed tables (E2.qlx z6r E2.qir) (by kernel_rfl) z9m
theorem z6u:∀ F ∈ [zcl,zcm],E2.qbx Tryz.prog F.f F.qpq:=(E2.qlx z6q (E2.qlx z6s E2.qir))
end Go.Proofs.YtpgchdcifbaioaaGreatDoor.bookAwake
