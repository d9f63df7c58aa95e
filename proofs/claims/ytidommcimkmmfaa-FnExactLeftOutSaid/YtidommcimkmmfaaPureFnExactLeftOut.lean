/- The law FnExactLeftOut's plain statement holds. The law FnExactLeftOut: the program's LeftOut returns what the reference's returns. -/
import Derived.Test.YtidommcimkmmfaaLeftOut
