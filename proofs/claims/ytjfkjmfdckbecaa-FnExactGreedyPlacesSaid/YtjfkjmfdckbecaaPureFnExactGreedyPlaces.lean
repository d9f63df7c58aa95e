/- The law FnExactGreedyPlaces's plain statement holds. The law FnExactGreedyPlaces: the program's GreedyPlaces returns what the reference's returns. -/
import Derived.Test.YtjfkjmfdckbecaaGreedyPlaces
