/- The law FnExactInsideOf's plain statement holds. The law FnExactInsideOf: the program's InsideOf returns what the reference's returns. -/
import Derived.Test.YtehnlgifedndjaaInsideOf
