/- The law FnExactGreatestOutline's plain statement holds. The law FnExactGreatestOutline: the program's GreatestOutline returns what the reference's returns. -/
import Derived.Test.YtehnlgifedndjaaGreatestOutline
