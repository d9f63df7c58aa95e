/- The law FnExactCellsOf's plain statement holds. The law FnExactCellsOf: the program's CellsOf returns what the reference's returns. -/
import Derived.Test.YtphaebmhhgkkcaaDoorCellsOf
