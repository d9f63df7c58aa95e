/- The law FnExactLooseEnds's plain statement holds. The law FnExactLooseEnds: the program's LooseEnds returns what the reference's returns. -/
import Derived.Test.YtgblbmbdadjicaaLoose
