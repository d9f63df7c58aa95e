/- The law FnExactNeighboursOf's plain statement holds. The law FnExactNeighboursOf: the program's NeighboursOf returns what the reference's returns. -/
import Derived.Test.YtlkpnjcbokeoeaaNeighboursOf
