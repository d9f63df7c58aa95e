/- The law FnHardBorders's plain statement holds. The law FnHardBorders: without a hard border fewer colours are enough, without another one they are not, and neighbours are those of the borders. -/
import Derived.Test.YtcjkklkmlooinaaFnHardBorders
