/- The law FnExactOnMap's plain statement holds. The law FnExactOnMap: the program's OnMap returns what the reference's returns. -/
import Derived.Test.YtbhdbkgpnpgejaaOnMap
