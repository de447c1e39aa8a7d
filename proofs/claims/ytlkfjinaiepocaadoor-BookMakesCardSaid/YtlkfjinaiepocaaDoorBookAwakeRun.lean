/- THE FACTS OF THE LAW BookAwake, joined. Made by program. No condition. -/
import Derived.Test.YtlkfjinaiepocaaDoorBookAwakeT
import Derived.Test.YtlkfjinaiepocaaDoorBookAwakeK
import Derived.Test.YtlkfjinaiepocaaDoorBookAwakeF1
import Derived.Test.YtlkfjinaiepocaaDoorBookAwakeF2
namespace Go.Proofs.YtlkfjinaiepocaaDoor.bookAwake
open Go
set_option maxRecDepth 100000
theorem good0 : E2.SpecOk Tryd.prog fact0.f fact0.tryR := E2.goodR_fact Tryd.checked.mixed tables E2.goodR_nil (by kernel_rfl) run0
theorem good1 : E2.SpecOk Tryd.prog fact1.f fact1.tryR := E2.goodR_fact Tryd.checked.mixed tables E2.goodR_nil (by kernel_rfl) run1
theorem good2 : E2.SpecOk Tryd.prog fact2.f fact2.tryR := E2.goodR_fact Tryd.checked.mixed tables (E2.goodR_cons good0 (E2.goodR_cons good1 E2.goodR_nil)) (by kernel_rfl) run2
theorem good3 : E2.SpecOk Tryd.prog fact3.f fact3.tryR := E2.goodR_fact Tryd.checked.mixed tables E2.goodR_nil (by kernel_rfl) run3
theorem good4 : E2.SpecOk Tryd.prog fact4.f fact4.tryR := E2.goodR_fact Tryd.checked.mixed tables (E2.goodR_cons good3 E2.goodR_nil) (by kernel_rfl) run4
theorem goods : ∀ F ∈ [fact2, fact4], E2.SpecOk Tryd.prog F.f F.tryR := (E2.goodR_cons good2 (E2.goodR_cons good4 E2.goodR_nil))
end Go.Proofs.YtlkfjinaiepocaaDoor.bookAwake
