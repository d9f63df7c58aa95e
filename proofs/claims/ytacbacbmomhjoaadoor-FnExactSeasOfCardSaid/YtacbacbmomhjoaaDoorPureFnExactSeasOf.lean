/- The law FnExactSeasOf's plain statement holds. The law FnExactSeasOf: the program's SeasOf returns what the reference's returns. -/
import Derived.Test.YtacbacbmomhjoaaDoorSeasOf
