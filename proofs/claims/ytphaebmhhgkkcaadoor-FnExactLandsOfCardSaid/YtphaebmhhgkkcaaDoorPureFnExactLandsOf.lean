/- The law FnExactLandsOf's plain statement holds. The law FnExactLandsOf: the program's LandsOf returns what the reference's returns. -/
import Derived.Test.YtphaebmhhgkkcaaDoorLandsOf
