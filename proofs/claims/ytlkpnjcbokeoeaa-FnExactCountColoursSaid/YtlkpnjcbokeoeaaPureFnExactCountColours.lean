/- The law FnExactCountColours's plain statement holds. The law FnExactCountColours: the program's CountColours returns what the reference's returns. -/
import Derived.Test.YtlkpnjcbokeoeaaCountColours
