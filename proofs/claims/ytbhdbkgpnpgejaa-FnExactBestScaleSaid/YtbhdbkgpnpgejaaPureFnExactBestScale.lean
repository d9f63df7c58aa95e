/- The law FnExactBestScale's plain statement holds. The law FnExactBestScale: the program's BestScale returns what the reference's returns. -/
import Derived.Test.YtbhdbkgpnpgejaaBestScale
