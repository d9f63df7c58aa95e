/- The law FnExactHardBorders's plain statement holds. The law FnExactHardBorders: the program's HardBorders returns what the reference's returns. -/
import Derived.Test.YtcjkklkmlooinaaHardBorders
