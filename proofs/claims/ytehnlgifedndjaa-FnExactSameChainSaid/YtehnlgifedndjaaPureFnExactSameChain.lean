/- The law FnExactSameChain's plain statement holds. The law FnExactSameChain: the program's SameChain returns what the reference's returns. -/
import Derived.Test.YtehnlgifedndjaaSameChain
