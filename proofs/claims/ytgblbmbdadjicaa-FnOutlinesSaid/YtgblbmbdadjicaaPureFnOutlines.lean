/- The law FnOutlines's plain statement holds. The law FnOutlines: a closed chain that is turned has the opposite area, one that is moved keeps it, and the greatest outline is not less than others. -/
import Derived.Test.YtgblbmbdadjicaaFnOutlines
