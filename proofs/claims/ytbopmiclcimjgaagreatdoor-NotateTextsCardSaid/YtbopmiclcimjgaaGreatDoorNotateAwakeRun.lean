/- THE FACTS OF THE LAW NotateAwake, joined. Made by program. No condition. -/
import Derived.Test.YtbopmiclcimjgaaGreatDoorNotateAwakeT
import Derived.Test.YtbopmiclcimjgaaGreatDoorNotateAwakeK
import Derived.Test.YtbopmiclcimjgaaGreatDoorNotateAwakeF1
import Derived.Test.YtbopmiclcimjgaaGreatDoorNotateAwakeF2
namespace Go.Proofs.YtbopmiclcimjgaaGreatDoor.notateAwake
open Go
set_option maxRecDepth 100000
theorem zeu:E2.jr Tryz.prog q20.f q20.qgs:=E2.qa0 Tryz.checked.mixed tables E2.qas (by kernel_rfl) zgd
theorem zev:E2.jr Tryz.prog q21.f q21.qgs:=E2.qa0 Tryz.checked.mixed tables E2.qas (by kernel_rfl) zge
theorem zew:E2.jr Tryz.prog q22.f q22.qgs:=E2.qa0 Tryz.checked.mixed tables (E2.qaz zev E2.qas) (by kernel_rfl) zgf
theorem zex:E2.jr Tryz.prog q23.f q23.qgs:=E2.qa0 Tryz.checked.mixed tables E2.qas (by kernel_rfl) zgg
theorem zey:E2.jr Tryz.prog q24.f q24.qgs:=E2.qa0 Tryz.checked.mixed tables E2.qas (by kernel_rfl) zgh
theorem zez:E2.jr Tryz.prog q25.f q25.qgs:=E2.qa0 Tryz.checked.mixed tables E2.qas (by kernel_rfl) zgi
theorem ze0:E2.jr Tryz.prog qyb.f qyb.qgs:=E2.qa0 Tryz.checked.mixed tables (E2.qaz zeu (E2.qaz zew (E2.qaz zex (E2.qaz zey (E2.qaz zez E2.qas))))) (by kernel_rfl) zgj
theorem ze1:E2.jr Tryz.prog q26.f q26.qgs:=E2.qa0 Tryz.checked.mixed tables E2.qas (by kernel_rfl) zgk
theorem ze2:E2.jr Tryz.prog qyc.f qyc.qgs:=E2.qa0 Tryz.checked.mixed tables (E2.qaz ze1 E2.qas) (by kernel_rfl) zgl
theorem ze3:E2.jr Tryz.prog qyd.f qyd.qgs:=E2.qa0 Tryz.checked.mixed tables E2.qas (by kernel_rfl) zgm
theorem ze5:∀ F ∈ [qyb,qyc,qyd],E2.jr Tryz.prog F.f F.qgs:=(E2.qaz ze0 (E2.qaz ze2 (E2.qaz ze3 E2.qas)))
end Go.Proofs.YtbopmiclcimjgaaGreatDoor.notateAwake
