/- The law FnExactValidLabels's plain statement holds. The law FnExactValidLabels: the program's ValidLabels returns what the reference's returns. -/
import Derived.Test.YtidommcimkmmfaaValidLabels
