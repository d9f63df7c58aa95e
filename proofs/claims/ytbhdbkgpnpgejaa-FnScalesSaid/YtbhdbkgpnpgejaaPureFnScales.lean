/- The law FnScales's plain statement holds. The law FnScales: with the best scale no place moves by more than told, and parallels are never shorter on the square map. -/
import Derived.Test.YtbhdbkgpnpgejaaScales
