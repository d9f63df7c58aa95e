/- The law FnExactCoastOf's plain statement holds. The law FnExactCoastOf: the program's CoastOf returns what the reference's returns. -/
import Derived.Test.YtphaebmhhgkkcaaDoorCoastOf
