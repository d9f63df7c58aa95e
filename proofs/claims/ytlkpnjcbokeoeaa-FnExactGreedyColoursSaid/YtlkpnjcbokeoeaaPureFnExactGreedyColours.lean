/- The law FnExactGreedyColours's plain statement holds. The law FnExactGreedyColours: the program's GreedyColours returns what the reference's returns. -/
import Derived.Test.YtlkpnjcbokeoeaaGreedyColours
