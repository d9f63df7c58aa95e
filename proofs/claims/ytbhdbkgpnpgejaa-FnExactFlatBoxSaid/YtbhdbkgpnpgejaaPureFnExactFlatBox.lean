/- The law FnExactFlatBox's plain statement holds. The law FnExactFlatBox: the program's FlatBox returns what the reference's returns. -/
import Derived.Test.YtbhdbkgpnpgejaaFlatBox
