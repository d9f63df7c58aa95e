/- The law FnExactLeastBound's plain statement holds. The law FnExactLeastBound: the program's LeastBound returns what the reference's returns. -/
import Derived.Test.YtbgniogjboebgaaLeastBound
