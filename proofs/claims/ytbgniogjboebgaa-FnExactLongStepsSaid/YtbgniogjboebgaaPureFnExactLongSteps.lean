/- The law FnExactLongSteps's plain statement holds. The law FnExactLongSteps: the program's LongSteps returns what the reference's returns. -/
import Derived.Test.YtbgniogjboebgaaLongSteps
