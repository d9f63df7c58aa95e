/- The law FnChains's plain statement holds. The law FnChains: the told bound is the least one for so many points, a chain from its end needs as many points, and picked points are those of the chain. -/
import Derived.Test.YtbgniogjboebgaaFnChains
