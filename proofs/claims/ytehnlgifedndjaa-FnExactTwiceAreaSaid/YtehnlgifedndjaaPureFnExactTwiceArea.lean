/- The law FnExactTwiceArea's plain statement holds. The law FnExactTwiceArea: the program's TwiceArea returns what the reference's returns. -/
import Derived.Test.YtehnlgifedndjaaTwiceArea
