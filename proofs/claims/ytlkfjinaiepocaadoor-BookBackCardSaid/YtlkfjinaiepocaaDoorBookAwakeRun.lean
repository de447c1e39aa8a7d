/- THE FACTS OF THE LAW BookAwake, joined. Made by program. No condition. -/
import Derived.Test.YtlkfjinaiepocaaDoorBookAwakeT
import Derived.Test.YtlkfjinaiepocaaDoorBookAwakeK
import Derived.Test.YtlkfjinaiepocaaDoorBookAwakeF1
import Derived.Test.YtlkfjinaiepocaaDoorBookAwakeF2
namespace Go.Proofs.YtlkfjinaiepocaaDoor.bookAwake
open Go
set_option maxRecDepth 100000
theorem q59 : E2.jw Tryd.prog qq8.f qq8.qg5 := E2.qa1 Tryd.checked.mixed tables E2.qbg (by kernel_rfl) zej
theorem zdg : E2.jw Tryd.prog qxs.f qxs.qg5 := E2.qa1 Tryd.checked.mixed tables E2.qbg (by kernel_rfl) zek
theorem zdh : E2.jw Tryd.prog q1m.f q1m.qg5 := E2.qa1 Tryd.checked.mixed tables E2.qbg (by kernel_rfl) zel
theorem zbf : E2.jw Tryd.prog qty.f qty.qg5 := E2.qa1 Tryd.checked.mixed tables (E2.k6 q59 (E2.k6 zdh E2.qbg)) (by kernel_rfl) zem
theorem zdi : E2.jw Tryd.prog q1n.f q1n.qg5 := E2.qa1 Tryd.checked.mixed tables E2.qbg (by kernel_rfl) zen
theorem zdj : E2.jw Tryd.prog qxt.f qxt.qg5 := E2.qa1 Tryd.checked.mixed tables (E2.k6 q59 (E2.k6 zdi E2.qbg)) (by kernel_rfl) zeo
theorem zdk : E2.jw Tryd.prog q1o.f q1o.qg5 := E2.qa1 Tryd.checked.mixed tables E2.qbg (by kernel_rfl) zep
theorem q6a : E2.jw Tryd.prog qq9.f qq9.qg5 := E2.qa1 Tryd.checked.mixed tables (E2.k6 zdk E2.qbg) (by kernel_rfl) zeq
theorem zdl : E2.jw Tryd.prog qxu.f qxu.qg5 := E2.qa1 Tryd.checked.mixed tables (E2.k6 q6a E2.qbg) (by kernel_rfl) zer
theorem zdm : E2.jw Tryd.prog qxv.f qxv.qg5 := E2.qa1 Tryd.checked.mixed tables (E2.k6 zbf (E2.k6 q6a E2.qbg)) (by kernel_rfl) zes
theorem zdn : ∀ F ∈ [qq8, qxs, qty, qxt, qxu, qq9, qxv], E2.jw Tryd.prog F.f F.qg5 := (E2.k6 q59 (E2.k6 zdg (E2.k6 zbf (E2.k6 zdj (E2.k6 zdl (E2.k6 q6a (E2.k6 zdm E2.qbg)))))))
end Go.Proofs.YtlkfjinaiepocaaDoor.bookAwake
