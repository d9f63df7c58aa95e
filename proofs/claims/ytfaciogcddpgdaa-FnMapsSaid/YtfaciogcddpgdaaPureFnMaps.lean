/- The law FnMaps's plain statement holds. The law FnMaps: places on a map are read near to where they are, boxes hold all places, and a place that is read is on the map. -/
import Derived.Test.YtfaciogcddpgdaaFnMaps
