/- The law FnExactReverseChain's plain statement holds. The law FnExactReverseChain: the program's ReverseChain returns what the reference's returns. -/
import Derived.Test.YtehnlgifedndjaaReverseChain
