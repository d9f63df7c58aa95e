/- The law FnExactSwapColours's plain statement holds. The law FnExactSwapColours: the program's SwapColours returns what the reference's returns. -/
import Derived.Test.YtlkpnjcbokeoeaaSwapColours
