/- The law FnExactPickPoints's plain statement holds. The law FnExactPickPoints: the program's PickPoints returns what the reference's returns. -/
import Derived.Test.YtehnlgifedndjaaPickPoints
