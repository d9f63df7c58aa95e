/- The law FnExactPlateBack's plain statement holds. The law FnExactPlateBack: the program's PlateBack returns what the reference's returns. -/
import Derived.Test.YtbhdbkgpnpgejaaPlateBack
