/- The law FnLabels's plain statement holds. The law FnLabels: the best places have no overlap and no less weight than the greedy ones, what is left out weighs the rest, and rows are filled by their labels. -/
import Derived.Test.YtjfkjmfdckbecaaFnLabels
