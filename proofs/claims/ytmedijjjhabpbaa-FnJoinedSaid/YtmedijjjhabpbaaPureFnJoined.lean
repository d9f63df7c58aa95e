/- The law FnJoined's plain statement holds. The law FnJoined: chains that are joined keep their points, what is left cannot be joined any more, and loose ends are ends of open chains. -/
import Derived.Test.YtmedijjjhabpbaaFnJoined
