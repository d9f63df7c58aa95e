/- The law FnExactLossOf's plain statement holds. The law FnExactLossOf: the program's LossOf returns what the reference's returns. -/
import Derived.Test.YtbhdbkgpnpgejaaLossOf
