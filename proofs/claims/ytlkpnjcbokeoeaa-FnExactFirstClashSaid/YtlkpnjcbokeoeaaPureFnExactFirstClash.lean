/- The law FnExactFirstClash's plain statement holds. The law FnExactFirstClash: the program's FirstClash returns what the reference's returns. -/
import Derived.Test.YtlkpnjcbokeoeaaFirstClash
