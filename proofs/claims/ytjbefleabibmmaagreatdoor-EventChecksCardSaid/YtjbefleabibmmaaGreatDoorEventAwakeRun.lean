/- THE FACTS OF THE LAW EventAwake, joined. Made by program. No condition. -/
import Derived.Test.YtjbefleabibmmaaGreatDoorEventAwakeT
import Derived.Test.YtjbefleabibmmaaGreatDoorEventAwakeK
import Derived.Test.YtjbefleabibmmaaGreatDoorEventAwakeF1
import Derived.Test.YtjbefleabibmmaaGreatDoorEventAwakeF2
namespace Go.Proofs.YtjbefleabibmmaaGreatDoor.eventAwake
open Go
set_option maxRecDepth 100000
theorem good0 : E2.SpecOk Tryz.prog fact0.f fact0.tryR := E2.goodR_fact Tryz.checked.mixed tables E2.goodR_nil (by kernel_rfl) run0
theorem good1 : E2.SpecOk Tryz.prog fact1.f fact1.tryR := E2.goodR_fact Tryz.checked.mixed tables (E2.goodR_cons good0 E2.goodR_nil) (by kernel_rfl) run1
theorem good2 : E2.SpecOk Tryz.prog fact2.f fact2.tryR := E2.goodR_fact Tryz.checked.mixed tables (E2.goodR_cons good1 (E2.goodR_cons good0 E2.goodR_nil)) (by kernel_rfl) run2
theorem good3 : E2.SpecOk Tryz.prog fact3.f fact3.tryR := E2.goodR_fact Tryz.checked.mixed tables (E2.goodR_cons good0 E2.goodR_nil) (by kernel_rfl) run3
theorem good4 : E2.SpecOk Tryz.prog fact4.f fact4.tryR := E2.goodR_fact Tryz.checked.mixed tables (E2.goodR_cons good2 (E2.goodR_cons good1 (E2.goodR_cons good0 (E2.goodR_cons good3 E2.goodR_nil)))) (by kernel_rfl) run4
theorem good5 : E2.SpecOk Tryz.prog fact5.f fact5.tryR := E2.goodR_fact Tryz.checked.mixed tables E2.goodR_nil (by kernel_rfl) run5
theorem good6 : E2.SpecOk Tryz.prog fact6.f fact6.tryR := E2.goodR_fact Tryz.checked.mixed tables (E2.goodR_cons good5 E2.goodR_nil) (by kernel_rfl) run6
theorem good7 : E2.SpecOk Tryz.prog fact7.f fact7.tryR := E2.goodR_fact Tryz.checked.mixed tables E2.goodR_nil (by kernel_rfl) run7
theorem goods : ∀ F ∈ [fact4, fact7, fact6], E2.SpecOk Tryz.prog F.f F.tryR := (E2.goodR_cons good4 (E2.goodR_cons good7 (E2.goodR_cons good6 E2.goodR_nil)))
end Go.Proofs.YtjbefleabibmmaaGreatDoor.eventAwake
