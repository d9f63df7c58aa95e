/- The law FnExactFewestColours's plain statement holds. The law FnExactFewestColours: the program's FewestColours returns what the reference's returns. -/
import Derived.Test.YtcjkklkmlooinaaFewestColours
