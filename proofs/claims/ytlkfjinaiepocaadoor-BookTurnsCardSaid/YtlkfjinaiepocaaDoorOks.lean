/- THE CONDITIONS hold. -/
import Derived.Test.YtlkfjinaiepocaaDoorOksP
import Derived.Test.YtlkfjinaiepocaaDoorOksF
import Derived.Test.YtlkfjinaiepocaaDoorOksLT
