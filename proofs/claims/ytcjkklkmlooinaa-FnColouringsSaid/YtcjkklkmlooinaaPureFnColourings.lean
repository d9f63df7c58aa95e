/- The law FnColourings's plain statement holds. The law FnColourings: colours by an order are right, there are right colours just if enough are there, more colours have more ways, and exchanged colours stay right. -/
import Derived.Test.YtcjkklkmlooinaaFnColourings
