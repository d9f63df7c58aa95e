/- The law FnExactPlateOf's plain statement holds. The law FnExactPlateOf: the program's PlateOf returns what the reference's returns. -/
import Derived.Test.YtbhdbkgpnpgejaaPlateOf
