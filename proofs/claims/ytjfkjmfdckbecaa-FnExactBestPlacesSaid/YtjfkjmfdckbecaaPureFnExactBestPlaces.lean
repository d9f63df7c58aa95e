/- The law FnExactBestPlaces's plain statement holds. The law FnExactBestPlaces: the program's BestPlaces returns what the reference's returns. -/
import Derived.Test.YtjfkjmfdckbecaaBestPlaces
