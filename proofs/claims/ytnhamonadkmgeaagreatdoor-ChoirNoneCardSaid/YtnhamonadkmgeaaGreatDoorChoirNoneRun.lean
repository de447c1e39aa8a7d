/- THE RUN OF THE LAW ChoirNone, by the kernel over E2, whatever the two numbers of its argument (nothing looks at them); 'awake' by a fact of ChoirKnown. No condition. -/
import Derived.Test.YtnhamonadkmgeaaGreatDoorE2y
import Derived.Test.YtnhamonadkmgeaaGreatDoorChoirKnownRun
namespace Go.Proofs.YtnhamonadkmgeaaGreatDoor.choirNone
open Go
open Go.Proofs.YtnhamonadkmgeaaGreatDoor.choirKnown (fact27 good27 tables glob)
set_option maxRecDepth 100000
theorem run (n d : Int) : E2.runsTrueA Tryz.prog [fact27] 1000 4 [.agg [.int .i64 n, .int .i64 d]] (E2.startH glob 3) = true := by kernel_rfl
theorem goods : ∀ F ∈ [fact27], E2.SpecOk Tryz.prog F.f F.tryR := (E2.goodR_cons good27 E2.goodR_nil)
end Go.Proofs.YtnhamonadkmgeaaGreatDoor.choirNone
