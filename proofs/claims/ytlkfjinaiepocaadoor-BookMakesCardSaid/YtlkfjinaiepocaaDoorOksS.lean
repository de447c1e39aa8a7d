/- THE CONDITION of the sign's check holds. -/
import Derived.Test.YtlkfjinaiepocaaDoorVcs
namespace Go.Proofs.YtlkfjinaiepocaaDoor
open Go Go.E2 Go.E3
set_option maxRecDepth 100000
set_option maxHeartbeats 4000000 in
theorem OneS_ok (a0 a1 a2 a3 : Int) (a4 : Bool) (a5 : Int) (a6 a7 : Bool) (a8 a9 a10 a11 : Int) (a12 : Bool) (a13 a14 a15 a16 : Int) : OneS_VC a0 a1 a2 a3 a4 a5 a6 a7 a8 a9 a10 a11 a12 a13 a14 a15 a16 := by
  unfold OneS_VC
  unhygienic (repeat' (first | exact trivial | apply And.intro | intro))
  all_goals try omega
  all_goals grind (splits := 40) [oneC, keptC, rangeC, mensC]
end Go.Proofs.YtlkfjinaiepocaaDoor
