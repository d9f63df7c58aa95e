/- The law FnLabelsMeet's plain statement holds. The law FnLabelsMeet: labels meet just if a number of a row is covered by both, and the first fault is the first such label. -/
import Derived.Test.YtidommcimkmmfaaFnLabelsMeet
