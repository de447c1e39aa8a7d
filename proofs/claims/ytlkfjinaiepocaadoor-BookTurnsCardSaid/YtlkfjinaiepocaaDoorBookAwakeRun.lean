/- THE FACTS OF THE LAW BookAwake, joined. Made by program. No condition. -/
import Derived.Test.YtlkfjinaiepocaaDoorBookAwakeT
import Derived.Test.YtlkfjinaiepocaaDoorBookAwakeK
import Derived.Test.YtlkfjinaiepocaaDoorBookAwakeF1
import Derived.Test.YtlkfjinaiepocaaDoorBookAwakeF2
namespace Go.Proofs.YtlkfjinaiepocaaDoor.bookAwake
open Go
set_option maxRecDepth 100000
theorem q6f : E2.j8 Tryd.prog qrl.f qrl.qhh := E2.qbb Tryd.checked.mixed tables E2.qbo (by kernel_rfl) zen
theorem zdi : E2.j8 Tryd.prog qxw.f qxw.qhh := E2.qbb Tryd.checked.mixed tables E2.qbo (by kernel_rfl) zeo
theorem zdj : E2.j8 Tryd.prog q1p.f q1p.qhh := E2.qbb Tryd.checked.mixed tables E2.qbo (by kernel_rfl) zep
theorem zbj : E2.j8 Tryd.prog qt8.f qt8.qhh := E2.qbb Tryd.checked.mixed tables (E2.jd q6f (E2.jd zdj E2.qbo)) (by kernel_rfl) zeq
theorem zdk : E2.j8 Tryd.prog q1q.f q1q.qhh := E2.qbb Tryd.checked.mixed tables E2.qbo (by kernel_rfl) zer
theorem zdl : E2.j8 Tryd.prog qxx.f qxx.qhh := E2.qbb Tryd.checked.mixed tables (E2.jd q6f (E2.jd zdk E2.qbo)) (by kernel_rfl) zes
theorem zdm : E2.j8 Tryd.prog q1r.f q1r.qhh := E2.qbb Tryd.checked.mixed tables E2.qbo (by kernel_rfl) zet
theorem q6g : E2.j8 Tryd.prog qrm.f qrm.qhh := E2.qbb Tryd.checked.mixed tables (E2.jd zdm E2.qbo) (by kernel_rfl) zeu
theorem zdn : E2.j8 Tryd.prog qxy.f qxy.qhh := E2.qbb Tryd.checked.mixed tables (E2.jd q6g E2.qbo) (by kernel_rfl) zev
theorem zdo : E2.j8 Tryd.prog qxz.f qxz.qhh := E2.qbb Tryd.checked.mixed tables (E2.jd zbj (E2.jd q6g E2.qbo)) (by kernel_rfl) zew
theorem zdp : ∀ F ∈ [qrl, qxw, qt8, qxx, qxy, qrm, qxz], E2.j8 Tryd.prog F.f F.qhh := (E2.jd q6f (E2.jd zdi (E2.jd zbj (E2.jd zdl (E2.jd zdn (E2.jd q6g (E2.jd zdo E2.qbo)))))))
end Go.Proofs.YtlkfjinaiepocaaDoor.bookAwake
