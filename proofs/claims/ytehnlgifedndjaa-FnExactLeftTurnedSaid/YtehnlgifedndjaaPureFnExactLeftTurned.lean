/- The law FnExactLeftTurned's plain statement holds. The law FnExactLeftTurned: the program's LeftTurned returns what the reference's returns. -/
import Derived.Test.YtehnlgifedndjaaLeftTurned
