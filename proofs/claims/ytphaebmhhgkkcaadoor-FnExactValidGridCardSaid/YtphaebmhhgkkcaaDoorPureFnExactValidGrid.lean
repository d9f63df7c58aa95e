/- The law FnExactValidGrid's plain statement holds. The law FnExactValidGrid: the program's ValidGrid returns what the reference's returns. -/
import Derived.Test.YtphaebmhhgkkcaaDoorValidGrid
