/- The law FnExactLabelsMeet's plain statement holds. The law FnExactLabelsMeet: the program's LabelsMeet returns what the reference's returns. -/
import Derived.Test.YtidommcimkmmfaaLabMeet
