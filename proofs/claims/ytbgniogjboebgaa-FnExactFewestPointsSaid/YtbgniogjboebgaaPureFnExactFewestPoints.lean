/- The law FnExactFewestPoints's plain statement holds. The law FnExactFewestPoints: the program's FewestPoints returns what the reference's returns. -/
import Derived.Test.YtbgniogjboebgaaFewestPoints
