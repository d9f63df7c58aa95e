/- The law FnExactMoveChain's plain statement holds. The law FnExactMoveChain: the program's MoveChain returns what the reference's returns. -/
import Derived.Test.YtehnlgifedndjaaMoveChain
