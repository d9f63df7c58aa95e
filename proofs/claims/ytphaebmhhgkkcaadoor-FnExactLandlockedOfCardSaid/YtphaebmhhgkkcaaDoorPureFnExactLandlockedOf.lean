/- The law FnExactLandlockedOf's plain statement holds. The law FnExactLandlockedOf: the program's LandlockedOf returns what the reference's returns. -/
import Derived.Test.YtphaebmhhgkkcaaDoorLandlockedOf
