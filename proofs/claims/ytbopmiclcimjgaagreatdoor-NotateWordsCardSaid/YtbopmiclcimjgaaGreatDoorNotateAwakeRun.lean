/- THE FACTS OF THE LAW NotateAwake, joined. Made by program. No condition. -/
import Derived.Test.YtbopmiclcimjgaaGreatDoorNotateAwakeT
import Derived.Test.YtbopmiclcimjgaaGreatDoorNotateAwakeK
import Derived.Test.YtbopmiclcimjgaaGreatDoorNotateAwakeF1
import Derived.Test.YtbopmiclcimjgaaGreatDoorNotateAwakeF2
namespace Go.Proofs.YtbopmiclcimjgaaGreatDoor.notateAwake
open Go
set_option maxRecDepth 100000
theorem zj6:E2.qac Tryz.prog q55.f q55.qh9:=E2.qbp Tryz.checked.mixed tables E2.qbf (by kernel_rfl) zmk
theorem zj7:E2.qac Tryz.prog q56.f q56.qh9:=E2.qbp Tryz.checked.mixed tables E2.qbf (by kernel_rfl) zml
theorem zj8:E2.qac Tryz.prog q57.f q57.qh9:=E2.qbp Tryz.checked.mixed tables (E2.qbo zj7 E2.qbf) (by kernel_rfl) zmm
theorem zj9:E2.qac Tryz.prog q58.f q58.qh9:=E2.qbp Tryz.checked.mixed tables E2.qbf (by kernel_rfl) zmn
theorem zka:E2.qac Tryz.prog q59.f q59.qh9:=E2.qbp Tryz.checked.mixed tables E2.qbf (by kernel_rfl) zmo
theorem zkb:E2.qac Tryz.prog q6a.f q6a.qh9:=E2.qbp Tryz.checked.mixed tables E2.qbf (by kernel_rfl) zmp
theorem zkc:E2.qac Tryz.prog q0q.f q0q.qh9:=E2.qbp Tryz.checked.mixed tables (E2.qbo zj6 (E2.qbo zj8 (E2.qbo zj9 (E2.qbo zka (E2.qbo zkb E2.qbf))))) (by kernel_rfl) zmq
theorem zkd:E2.qac Tryz.prog q6b.f q6b.qh9:=E2.qbp Tryz.checked.mixed tables E2.qbf (by kernel_rfl) zmr
theorem zke:E2.qac Tryz.prog q0r.f q0r.qh9:=E2.qbp Tryz.checked.mixed tables (E2.qbo zkd E2.qbf) (by kernel_rfl) zms
theorem zkf:E2.qac Tryz.prog q0s.f q0s.qh9:=E2.qbp Tryz.checked.mixed tables E2.qbf (by kernel_rfl) zmt
theorem zkh:∀ F ∈ [q0q,q0r,q0s],E2.qac Tryz.prog F.f F.qh9:=(E2.qbo zkc (E2.qbo zke (E2.qbo zkf E2.qbf)))
end Go.Proofs.YtbopmiclcimjgaaGreatDoor.notateAwake
