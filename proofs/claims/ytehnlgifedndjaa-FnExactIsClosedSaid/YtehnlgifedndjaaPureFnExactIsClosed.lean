/- The law FnExactIsClosed's plain statement holds. The law FnExactIsClosed: the program's IsClosed returns what the reference's returns. -/
import Derived.Test.YtehnlgifedndjaaIsClosed
