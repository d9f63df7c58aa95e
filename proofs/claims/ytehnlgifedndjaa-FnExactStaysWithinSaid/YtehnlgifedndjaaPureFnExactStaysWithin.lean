/- The law FnExactStaysWithin's plain statement holds. The law FnExactStaysWithin: the program's StaysWithin returns what the reference's returns. -/
import Derived.Test.YtehnlgifedndjaaStaysWithin
