/- The law FnExactTurnGrid's plain statement holds. The law FnExactTurnGrid: the program's TurnGrid returns what the reference's returns. -/
import Derived.Test.YtphaebmhhgkkcaaDoorTurnGrid
