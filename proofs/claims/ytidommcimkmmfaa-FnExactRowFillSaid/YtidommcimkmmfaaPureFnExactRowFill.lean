/- The law FnExactRowFill's plain statement holds. The law FnExactRowFill: the program's RowFill returns what the reference's returns. -/
import Derived.Test.YtidommcimkmmfaaRowFill
