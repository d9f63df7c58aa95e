/- The law FnExactTurnsAside's plain statement holds. The law FnExactTurnsAside: the program's TurnsAside returns what the reference's returns. -/
import Derived.Test.YtehnlgifedndjaaTurnsAside
