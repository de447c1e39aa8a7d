import Derived.Test.YtbopmiclcimjgaaGreatDoorNotateAwakeT
import Derived.Test.YtbopmiclcimjgaaGreatDoorNotateAwakeK
import Derived.Test.YtbopmiclcimjgaaGreatDoorNotateAwakeF1
import Derived.Test.YtbopmiclcimjgaaGreatDoorNotateAwakeF2
namespace Go.Proofs.YtbopmiclcimjgaaGreatDoor.notateAwake
open Go
set_option maxRecDepth 100000
theorem zsa:E2.qaz Tryz.prog zbo.f zbo.qjn:=E2.qcm Tryz.checked.mixed tables E2.qcc (by kernel_rfl) zum
theorem zsb:E2.qaz Tryz.prog zbp.f zbp.qjn:=E2.qcm Tryz.checked.mixed tables E2.qcc (by kernel_rfl) zun
theorem zsc:E2.qaz Tryz.prog zbq.f zbq.qjn:=E2.qcm Tryz.checked.mixed tables (E2.qcl zsb E2.qcc) (by kernel_rfl) zuo
theorem zsd:E2.qaz Tryz.prog zbr.f zbr.qjn:=E2.qcm Tryz.checked.mixed tables E2.qcc (by kernel_rfl) zup
theorem zse:E2.qaz Tryz.prog zbs.f zbs.qjn:=E2.qcm Tryz.checked.mixed tables E2.qcc (by kernel_rfl) zuq
theorem zsf:E2.qaz Tryz.prog zbt.f zbt.qjn:=E2.qcm Tryz.checked.mixed tables E2.qcc (by kernel_rfl) zur
theorem zsg:E2.qaz Tryz.prog q5e.f q5e.qjn:=E2.qcm Tryz.checked.mixed tables (E2.qcl zsa (E2.qcl zsc (E2.qcl zsd (E2.qcl zse (E2.qcl zsf E2.qcc))))) (by kernel_rfl) zus
theorem zsh:E2.qaz Tryz.prog zbu.f zbu.qjn:=E2.qcm Tryz.checked.mixed tables E2.qcc (by kernel_rfl) zut
theorem zsi:E2.qaz Tryz.prog q5f.f q5f.qjn:=E2.qcm Tryz.checked.mixed tables (E2.qcl zsh E2.qcc) (by kernel_rfl) zuu
theorem zsj:E2.qaz Tryz.prog q5g.f q5g.qjn:=E2.qcm Tryz.checked.mixed tables E2.qcc (by kernel_rfl) zuv
theorem zsl:∀ F ∈ [q5e,q5f,q5g],E2.qaz Tryz.prog F.f F.qjn:=(E2.qcl zsg (E2.qcl zsi (E2.qcl zsj E2.qcc)))
end Go.Proofs.YtbopmiclcimjgaaGreatDoor.notateAwake
