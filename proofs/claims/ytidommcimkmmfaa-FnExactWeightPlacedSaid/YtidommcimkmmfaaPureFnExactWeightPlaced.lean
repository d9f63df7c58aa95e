/- The law FnExactWeightPlaced's plain statement holds. The law FnExactWeightPlaced: the program's WeightPlaced returns what the reference's returns. -/
import Derived.Test.YtidommcimkmmfaaWeightPl
