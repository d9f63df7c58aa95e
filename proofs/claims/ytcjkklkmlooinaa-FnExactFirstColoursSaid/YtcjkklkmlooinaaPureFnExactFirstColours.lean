/- The law FnExactFirstColours's plain statement holds. The law FnExactFirstColours: the program's FirstColours returns what the reference's returns. -/
import Derived.Test.YtcjkklkmlooinaaFirstColours
