/- The law FnExactValidBorders's plain statement holds. The law FnExactValidBorders: the program's ValidBorders returns what the reference's returns. -/
import Derived.Test.YtonhcffmhpcacaaValidBorders
