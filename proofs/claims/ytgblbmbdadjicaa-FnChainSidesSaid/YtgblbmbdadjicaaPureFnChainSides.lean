/- The law FnChainSides's plain statement holds. The law FnChainSides: a chain and its reverse have the same bounds of length and exchanged sides. -/
import Derived.Test.YtgblbmbdadjicaaChainSides
