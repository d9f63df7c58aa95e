/- The law FnExactLengthBounds's plain statement holds. The law FnExactLengthBounds: the program's LengthBounds returns what the reference's returns. -/
import Derived.Test.YtgblbmbdadjicaaLengthBounds
