/- The law FnExactWaveBack's plain statement holds. The law FnExactWaveBack: the program's WaveBack returns what the reference's returns. -/
import Derived.Test.YtbhdbkgpnpgejaaWaveBack
