/- Part of the proof of FormsOverSets (the walk's printed half, struck of what it does not use); it holds without further conditions. -/
import Derived.Test.YtjgakaembhmhpaaGreatDoorPB0
import Derived.Test.YtjgakaembhmhpaaGreatDoorPB1
import Derived.Test.YtjgakaembhmhpaaGreatDoorPB2
import Derived.Test.YtjgakaembhmhpaaGreatDoorPB3
import Derived.Test.YtjgakaembhmhpaaGreatDoorPB4
import Derived.Test.YtjgakaembhmhpaaGreatDoorPB5
import Derived.Test.YtjgakaembhmhpaaGreatDoorPB6
import Derived.Test.YtjgakaembhmhpaaGreatDoorPB7
import Derived.Test.YtjgakaembhmhpaaGreatDoorPB8

