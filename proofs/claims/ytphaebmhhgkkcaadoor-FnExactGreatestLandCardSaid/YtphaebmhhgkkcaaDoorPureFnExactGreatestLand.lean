/- The law FnExactGreatestLand's plain statement holds. The law FnExactGreatestLand: the program's GreatestLand returns what the reference's returns. -/
import Derived.Test.YtphaebmhhgkkcaaDoorGreatestLand
