/- The law FnExactPlacesFault's plain statement holds. The law FnExactPlacesFault: the program's PlacesFault returns what the reference's returns. -/
import Derived.Test.YtidommcimkmmfaaPlacesFault
