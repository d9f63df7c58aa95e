/- The law FnExactJoinAll's plain statement holds. The law FnExactJoinAll: the program's JoinAll returns what the reference's returns. -/
import Derived.Test.YtmedijjjhabpbaaJoinAll
