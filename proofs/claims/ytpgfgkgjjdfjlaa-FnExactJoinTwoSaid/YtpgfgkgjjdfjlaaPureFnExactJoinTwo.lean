/- The law FnExactJoinTwo's plain statement holds. The law FnExactJoinTwo: the program's JoinTwo returns what the reference's returns. -/
import Derived.Test.YtpgfgkgjjdfjlaaJoinTwo
