/- The law FnExactValidChain's plain statement holds. The law FnExactValidChain: the program's ValidChain returns what the reference's returns. -/
import Derived.Test.YtehnlgifedndjaaValidChain
