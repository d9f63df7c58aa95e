/- The law FnExactIslandsOf's plain statement holds. The law FnExactIslandsOf: the program's IslandsOf returns what the reference's returns. -/
import Derived.Test.YtacbacbmomhjoaaDoorIslandsOf
