/- The law FnExactStretchAt's plain statement holds. The sine by the rule: the program and the reference compute one function, and StretchAt is the reference's. -/
import Derived.Test.YtbhdbkgpnpgejaaSine
