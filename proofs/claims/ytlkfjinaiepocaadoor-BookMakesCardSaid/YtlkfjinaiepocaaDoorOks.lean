/- THE CONDITIONS of the book's functions hold. -/
import Derived.Test.YtlkfjinaiepocaaDoorOksA
import Derived.Test.YtlkfjinaiepocaaDoorOksB
import Derived.Test.YtlkfjinaiepocaaDoorOksC
import Derived.Test.YtlkfjinaiepocaaDoorOksE
import Derived.Test.YtlkfjinaiepocaaDoorOksS
