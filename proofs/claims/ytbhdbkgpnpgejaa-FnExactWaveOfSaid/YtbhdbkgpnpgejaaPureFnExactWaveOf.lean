/- The law FnExactWaveOf's plain statement holds. The law FnExactWaveOf: the program's WaveOf returns what the reference's returns. -/
import Derived.Test.YtbhdbkgpnpgejaaWaveOf
